import PyProof.Rows.All
import HandS.ForMost
import HandS.Conv
import HandS.IsInst
import HandS.TupMul
import HandS.TupAny
import HandS.Wide
import HandS.Zip
import HandS.Flow
import HandS.NoneIn
import HandS.Style
import HandS.More
import KE.DataEq
import KE.KDictKeyed
import KE.GoesEnum
import KE.KDictDisplayH
import HandS.Small
import KE.KDictWalk
import KE.SortData
import HandS.DictComp
import PySem.Challenge.RW_chasedround_k05_whole_drawn_rounds
set_option Elab.async false
set_option linter.all false
set_option maxRecDepth 100000
set_option autoImplicit true
/-! DL0: values as plain data over the hand layer: At, ownership, the judgements. -/
namespace DL
open PySem L2

abbrev Dt := PyData

/-- what the layer is over -/
structure Lay where
  P : Program
  w : World
  K : PySem.W.Frag

/-! ### dicts with nested keys -/
abbrev NEnt := NestedKey × Addr × V
def NPair : List NEnt → List (NestedKey × Addr × Value) → Prop := Paired fun x y => x.1 = y.1 ∧ x.2.1 = y.2.1 ∧ RelV x.2.2 y.2.2
/-- the very object o stands there: what reads it knows that it is not changed -/
def dnO (Y : Lay) (a : Addr) (o : Obj) (xs : List NEnt) : HO := .ext fun h =>
  (a == sysModules) = false ∧ xs.length ≤ sizeLine ∧ (∀ x ∈ xs, x.1.depth ≤ 8) ∧ ∃ ys, NPair xs ys ∧ ∃ es ep, h.get? a = some o ∧ o.ExactDict ∧ o.data = .dict es ep ∧ es.toList = ys.map (entryOfKey (nestedKind Y.P Y.w)) ∧ (ys.map (·.1)).Nodup

mutual
def toKey : Dt → Option NestedKey
  | .none => some .none
  | .bool b => some (.num (if b = true then 1 else 0))
  | .int i => some (.num i)
  | .str x => some (.text x)
  | .tuple xs => (toKeys xs).map .tup
  | .list _ => none
  | .dict _ => none
def toKeys : List Dt → Option (List NestedKey)
  | [] => some []
  | x :: xs => match toKey x, toKeys xs with
    | some k, some ks => some (k :: ks)
    | _, _ => none
end

/-! ### a value is the data d -/
mutual
inductive At (Y : Lay) (H : Hp) : V → Dt → Prop
  | non : At Y H .non .none
  | bl (b : Bool) : At Y H (.bl b) (.bool b)
  | int (i : Int) : At Y H (.int i) (.int i)
  | str (x : Str) : At Y H (.str x) (.str x)
  | lst {a : Addr} {vs : List V} {ds : List Dt} : H a = some (.lst vs) → Ats Y H vs ds → At Y H (.ref a) (.list ds)
  | scr {a : Addr} {vs : List V} {ds : List Dt} : SqL Y.K H a vs → Ats Y H vs ds → At Y H (.ref a) (.dict [(.none, .list ds)])
  | tup {a : Addr} {vs : List V} {ds : List Dt} : SqT Y.K H a vs → Ats Y H vs ds → At Y H (.ref a) (.tuple ds)
  | dicK {a : Addr} {kvs : List (Key × V)} {ps : List (Dt × Dt)} : Rd H a (.dK kvs) → AtK Y H kvs ps → ps ≠ [] → At Y H (.ref a) (.dict ps)
  | dicN {a : Addr} {o : Obj} {xs : List NEnt} {ps : List (Dt × Dt)} : Rd H a (dnO Y a o xs) → AtN Y H xs ps → At Y H (.ref a) (.dict ps)
inductive Ats (Y : Lay) (H : Hp) : List V → List Dt → Prop
  | nil : Ats Y H [] []
  | cons {v : V} {vs : List V} {d : Dt} {ds : List Dt} : At Y H v d → Ats Y H vs ds → Ats Y H (v :: vs) (d :: ds)
inductive AtK (Y : Lay) (H : Hp) : List (Key × V) → List (Dt × Dt) → Prop
  | nil : AtK Y H [] []
  | int {i : Int} {v : V} {d : Dt} {xs : List (Key × V)} {ps : List (Dt × Dt)} : At Y H v d → AtK Y H xs ps → AtK Y H ((.inl i, v) :: xs) ((.int i, d) :: ps)
  | str {x : Str} {v : V} {d : Dt} {xs : List (Key × V)} {ps : List (Dt × Dt)} : At Y H v d → AtK Y H xs ps → AtK Y H ((.inr x, v) :: xs) ((.str x, d) :: ps)
inductive AtN (Y : Lay) (H : Hp) : List NEnt → List (Dt × Dt) → Prop
  | nil : AtN Y H [] []
  | cons {k : NestedKey} {a : Addr} {v : V} {kd d : Dt} {xs : List NEnt} {ps : List (Dt × Dt)} : At Y H (.ref a) kd → toKey kd = some k → At Y H v d → AtN Y H xs ps → AtN Y H ((k, a, v) :: xs) ((kd, d) :: ps)
end

theorem Same.rd {H H' : Hp} {a : Addr} {o : HO} (e : Same H H') (h : Rd H a o) : Rd H' a o := by
  rcases h with h | ⟨u, h⟩
  · exact .inl (e _ _ h)
  · exact .inr ⟨u, e _ _ h⟩
theorem Same.seqT {K : PySem.W.Frag} {H H' : Hp} {a : Addr} {xs : List V} (e : Same H H') (h : SqT K H a xs) : SqT K H' a xs := by
  rcases h with h | h
  · exact .inl (Same.rd e h)
  · exact .inr h
section
variable {Y : Lay} {H H' : Hp}
mutual
theorem At.mono (e : Same H H') : ∀ {v : V} {d : Dt}, At Y H v d → At Y H' v d
  | _, _, .non => .non
  | _, _, .bl b => .bl b
  | _, _, .int i => .int i
  | _, _, .str x => .str x
  | _, _, .lst h k => .lst (e _ _ h) (Ats.mono e k)
  | _, _, .scr h k => .scr (Same.seq e h) (Ats.mono e k)
  | _, _, .tup h k => .tup (Same.seqT e h) (Ats.mono e k)
  | _, _, .dicK h k n => .dicK (Same.rd e h) (AtK.mono e k) n
  | _, _, .dicN h k => .dicN (Same.rd e h) (AtN.mono e k)
theorem Ats.mono (e : Same H H') : ∀ {vs : List V} {ds : List Dt}, Ats Y H vs ds → Ats Y H' vs ds
  | _, _, .nil => .nil
  | _, _, .cons h k => .cons (At.mono e h) (Ats.mono e k)
theorem AtK.mono (e : Same H H') : ∀ {vs : List (Key × V)} {ds : List (Dt × Dt)}, AtK Y H vs ds → AtK Y H' vs ds
  | _, _, .nil => .nil
  | _, _, .int h k => .int (At.mono e h) (AtK.mono e k)
  | _, _, .str h k => .str (At.mono e h) (AtK.mono e k)
theorem AtN.mono (e : Same H H') : ∀ {vs : List NEnt} {ds : List (Dt × Dt)}, AtN Y H vs ds → AtN Y H' vs ds
  | _, _, .nil => .nil
  | _, _, .cons h q h' k => .cons (At.mono e h) q (At.mono e h') (AtN.mono e k)
end
theorem Ats.length : ∀ {vs : List V} {ds : List Dt}, Ats Y H vs ds → vs.length = ds.length
  | _, _, .nil => rfl
  | _, _, .cons _ k => by simp [Ats.length k]
theorem Ats.get : ∀ {vs : List V} {ds : List Dt} {i : Nat} {d : Dt}, Ats Y H vs ds → ds[i]? = some d → ∃ v, vs[i]? = some v ∧ At Y H v d
  | _, _, _, _, .nil, e => by simp at e
  | _, _, 0, _, .cons h _, e => by simp at e; subst e; exact ⟨_, rfl, h⟩
  | _, _, i + 1, _, .cons _ k, e => by
    obtain ⟨v, h1, h2⟩ := Ats.get (i := i) k (by simpa using e)
    exact ⟨v, by simpa using h1, h2⟩
theorem Ats.getV : ∀ {vs : List V} {ds : List Dt} {i : Nat} {v : V}, Ats Y H vs ds → vs[i]? = some v → ∃ d, ds[i]? = some d ∧ At Y H v d
  | _, _, _, _, .nil, e => by simp at e
  | _, _, 0, _, .cons h _, e => by simp at e; subst e; exact ⟨_, rfl, h⟩
  | _, _, i + 1, _, .cons _ k, e => by
    obtain ⟨v, h1, h2⟩ := Ats.getV (i := i) k (by simpa using e)
    exact ⟨v, by simpa using h1, h2⟩
theorem Ats.append : ∀ {vs us : List V} {ds es : List Dt}, Ats Y H vs ds → Ats Y H us es → Ats Y H (vs ++ us) (ds ++ es)
  | _, _, _, _, .nil, k => k
  | _, _, _, _, .cons h k, q => .cons h (Ats.append k q)
theorem Ats.take : ∀ {vs : List V} {ds : List Dt} (n : Nat), Ats Y H vs ds → Ats Y H (vs.take n) (ds.take n)
  | _, _, 0, _ => by simpa using Ats.nil
  | _, _, _ + 1, .nil => by simpa using Ats.nil
  | _, _, n + 1, .cons h k => by simpa using Ats.cons h (Ats.take n k)
theorem Ats.drop : ∀ {vs : List V} {ds : List Dt} (n : Nat), Ats Y H vs ds → Ats Y H (vs.drop n) (ds.drop n)
  | _, _, 0, h => by simpa using h
  | _, _, _ + 1, .nil => by simpa using Ats.nil
  | _, _, n + 1, .cons h k => by simpa using Ats.drop n k
theorem Ats.set {v : V} {d : Dt} (h : At Y H v d) : ∀ {vs : List V} {ds : List Dt} (n : Nat), Ats Y H vs ds → Ats Y H (vs.set n v) (ds.set n d)
  | _, _, _, .nil => by simpa using Ats.nil
  | _, _, 0, .cons _ k => by simpa using Ats.cons h k
  | _, _, n + 1, .cons q k => by simpa using Ats.cons q (Ats.set h n k)
/-- atoms need no heap -/
def isAt : Dt → Bool
  | .none => true
  | .bool _ => true
  | .int _ => true
  | .str _ => true
  | _ => false
theorem At.atom {v : V} {d : Dt} (h : At Y H v d) (a : isAt d = true) : At Y H' v d := by
  cases h with
  | non => exact .non
  | bl b => exact .bl b
  | int i => exact .int i
  | str x => exact .str x
  | lst _ _ => cases a
  | scr _ _ => cases a
  | tup _ _ => cases a
  | dicK _ _ _ => cases a
  | dicN _ _ => cases a
end

/-! ### what is hidden -/
open Classical in
noncomputable def hide (O : Addr → Prop) (H : Hp) : Hp := fun a => if O a then none else H a
theorem hide_some {O : Addr → Prop} {H : Hp} {a : Addr} {o : HO} : hide O H a = some o ↔ ¬ O a ∧ H a = some o := by
  unfold hide
  by_cases h : O a <;> simp [h]
theorem hide_same {O O' : Addr → Prop} {H H' : Hp} (h : ∀ a o, ¬ O a → H a = some o → ¬ O' a ∧ H' a = some o) : Same (hide O H) (hide O' H') := fun a o e =>
  hide_some.mpr (h a o (hide_some.mp e).1 (hide_some.mp e).2)
theorem hide_le (O : Addr → Prop) (H : Hp) : Same (hide O H) H := fun a o e => (hide_some.mp e).2
theorem hide_mono {O : Addr → Prop} {H H' : Hp} (h : Same H H') : Same (hide O H) (hide O H') := hide_same fun a o n e => ⟨n, h a o e⟩
theorem hide_sub {O O' : Addr → Prop} {H : Hp} (h : ∀ a, O' a → O a) : Same (hide O H) (hide O' H) := hide_same fun a o n e => ⟨fun z => n (h a z), e⟩

/-- the object at a, which nobody else knows, holds the data d -/
inductive OwnAt (Y : Lay) (Hh H : Hp) (a : Addr) : Dt → Prop
  | lst {vs : List V} {ds : List Dt} : H a = some (.lst vs) → Ats Y Hh vs ds → OwnAt Y Hh H a (.list ds)
  | dicK {kvs : List (Key × V)} {ps : List (Dt × Dt)} : H a = some (.dK kvs) → AtK Y Hh kvs ps → ps ≠ [] → OwnAt Y Hh H a (.dict ps)
  | dicN {o : Obj} {xs : List NEnt} {ps : List (Dt × Dt)} : H a = some (dnO Y a o xs) → AtN Y Hh xs ps → OwnAt Y Hh H a (.dict ps)
section
variable {Y : Lay} {H H' Hh Hh' : Hp} {a : Addr} {d : Dt}
theorem OwnAt.there (h : OwnAt Y Hh H a d) : ∃ o, H a = some o := by
  cases h with
  | lst h _ => exact ⟨_, h⟩
  | dicK h _ _ => exact ⟨_, h⟩
  | dicN h _ => exact ⟨_, h⟩
theorem OwnAt.mono (h : OwnAt Y Hh H a d) (e : Same Hh Hh') (k : ∀ o, H a = some o → H' a = some o) : OwnAt Y Hh' H' a d := by
  cases h with
  | lst h q => exact .lst (k _ h) (q.mono e)
  | dicK h q z => exact .dicK (k _ h) (q.mono e) z
  | dicN h q => exact .dicN (k _ h) (q.mono e)
/-- seen by who may see the object -/
theorem OwnAt.at (h : OwnAt Y Hh H a d) (e : Same Hh H') (k : ∀ o, H a = some o → H' a = some o) : At Y H' (.ref a) d := by
  cases h with
  | lst h q => exact .lst (k _ h) (q.mono e)
  | dicK h q z => exact .dicK (Rd.of (k _ h)) (q.mono e) z
  | dicN h q => exact .dicN (Rd.of (k _ h)) (q.mono e)
end

/-! ### names: nothing, data, an object of one's own -/
inductive Cell where
  | un | dat (d : Dt) | own (d : Dt)
abbrev En := List Cell
/-- a call's frame: the heap at its entry, what its callers own, what it may change (its first parameters) -/
structure Fr where
  H0 : Hp
  O0 : Addr → Prop
  ms : List Addr
/-- one object more that the callers own -/
def Fr.plus (F : Fr) (p : Addr) (o : HO) : Fr := { F with H0 := upd F.H0 p o, O0 := fun a => a = p ∨ F.O0 a }
def Ow (F : Fr) (σ : St) (env : En) : Addr → Prop := fun a => F.O0 a ∨ ∃ (i : Nat) (d : Dt), env[i]? = some (Cell.own d) ∧ σ[i]? = some (some (V.ref a))
structure Rel (Y : Lay) (F : Fr) (σ : St) (H : Hp) (env : En) : Prop where
  dom : ∀ a, F.O0 a → ∃ o, F.H0 a = some o
  msO : ∀ a ∈ F.ms, ¬ F.O0 a
  len : σ.length = env.length
  keep : ∀ a o, F.H0 a = some o → a ∉ F.ms → H a = some o
  own : ∀ (i : Nat) d, env[i]? = some (Cell.own d) → ∃ a, σ[i]? = some (some (V.ref a)) ∧ OwnAt Y (hide (Ow F σ env) H) H a d ∧ (a ∈ F.ms ∨ F.H0 a = none)
  inj : ∀ (i j : Nat) d e a, env[i]? = some (Cell.own d) → env[j]? = some (Cell.own e) → σ[i]? = some (some (V.ref a)) → σ[j]? = some (some (V.ref a)) → i = j
  dat : ∀ (i : Nat) d, env[i]? = some (Cell.dat d) → ∃ v, σ[i]? = some (some v) ∧ At Y (hide (Ow F σ env) H) v d
  msAt : ∀ (j : Nat) a, F.ms[j]? = some a → σ[j]? = some (some (V.ref a)) ∧ ∃ d, env[j]? = some (Cell.own d)
/-- what is seen stays seen, as it is -/
def Stp (O : Addr → Prop) (H : Hp) (O' : Addr → Prop) (H' : Hp) : Prop := ∀ a o, ¬ O a → H a = some o → ¬ O' a ∧ H' a = some o
theorem Stp.same {O O' : Addr → Prop} {H H' : Hp} (h : Stp O H O' H') : Same (hide O H) (hide O' H') := hide_same h
theorem Stp.refl {O : Addr → Prop} {H : Hp} : Stp O H O H := fun _ _ n e => ⟨n, e⟩
theorem Stp.trans {O O' O'' : Addr → Prop} {H H' H'' : Hp} (h : Stp O H O' H') (k : Stp O' H' O'' H'') : Stp O H O'' H'' := fun a o n e =>
  k a o (h a o n e).1 (h a o n e).2
theorem Stp.of {O : Addr → Prop} {H H' : Hp} (h : Same H H') : Stp O H O H' := fun a o n e => ⟨n, h a o e⟩
/-- an expression's names: as they are, but for the content of own objects -/
def Kd (env env' : En) : Prop := ∀ i : Nat, env'[i]? = env[i]? ∨ ∃ d d', env[i]? = some (Cell.own d) ∧ env'[i]? = some (Cell.own d')
theorem Kd.refl (env : En) : Kd env env := fun _ => .inl rfl
theorem Kd.trans {a b c : En} (h : Kd a b) (k : Kd b c) : Kd a c := fun i => by
  rcases h i with h | ⟨d, d', h1, h2⟩
  · rcases k i with k | ⟨e, e', k1, k2⟩
    · exact .inl (k.trans h)
    · exact .inr ⟨e, e', by rw [← h]; exact k1, k2⟩
  · rcases k i with k | ⟨e, e', k1, k2⟩
    · exact .inr ⟨d, d', h1, by rw [k]; exact h2⟩
    · exact .inr ⟨d, e', h1, k2⟩
theorem Kd.own {a b : En} (h : Kd a b) (i : Nat) : (∃ d, a[i]? = some (Cell.own d)) ↔ ∃ d, b[i]? = some (Cell.own d) := by
  rcases h i with h | ⟨d, d', h1, h2⟩
  · rw [h]
  · exact ⟨fun _ => ⟨d', h2⟩, fun _ => ⟨d, h1⟩⟩
theorem Kd.ow {F : Fr} {σ : St} {a b : En} (h : Kd a b) : Ow F σ a = Ow F σ b := by
  funext x
  apply propext
  unfold Ow
  constructor
  · rintro (z | ⟨i, d, h1, h2⟩)
    · exact .inl z
    · obtain ⟨e, he⟩ := (h.own i).mp ⟨d, h1⟩
      exact .inr ⟨i, e, he, h2⟩
  · rintro (z | ⟨i, d, h1, h2⟩)
    · exact .inl z
    · obtain ⟨e, he⟩ := (h.own i).mpr ⟨d, h1⟩
      exact .inr ⟨i, e, he, h2⟩
theorem Kd.dat {a b : En} (h : Kd a b) {i : Nat} {d : Dt} (e : a[i]? = some (Cell.dat d)) : b[i]? = some (Cell.dat d) := by
  rcases h i with h | ⟨d, d', h1, h2⟩
  · rw [h]; exact e
  · rw [e] at h1; cases h1

section
variable {Y : Lay} {F : Fr} {σ : St} {H H' : Hp} {env : En}
theorem Rel.same (R : Rel Y F σ H env) (e : Same H H') : Rel Y F σ H' env where
  dom := R.dom
  msO := R.msO
  len := R.len
  keep := fun a o h n => e a o (R.keep a o h n)
  own := fun i d h => by
    obtain ⟨a, h1, h2, h3⟩ := R.own i d h
    exact ⟨a, h1, h2.mono (hide_mono e) (fun o q => e a o q), h3⟩
  inj := R.inj
  dat := fun i d h => by
    obtain ⟨v, h1, h2⟩ := R.dat i d h
    exact ⟨v, h1, h2.mono (hide_mono e)⟩
  msAt := R.msAt
theorem Rel.ms_there (R : Rel Y F σ H env) {a : Addr} (h : a ∈ F.ms) : ∃ o, H a = some o := by
  obtain ⟨j, hj, e⟩ := List.mem_iff_getElem.mp h
  obtain ⟨h1, d, h2⟩ := R.msAt j a (by rw [List.getElem?_eq_getElem hj, e])
  obtain ⟨b, h3, h4, _⟩ := R.own j d h2
  rw [h1] at h3
  cases h3
  exact h4.there
theorem Rel.h0_there (R : Rel Y F σ H env) {a : Addr} {o : HO} (h : F.H0 a = some o) : ∃ o, H a = some o := by
  by_cases m : a ∈ F.ms
  · exact R.ms_there m
  · exact ⟨o, R.keep a o h m⟩
theorem Rel.ow_there (R : Rel Y F σ H env) {a : Addr} (h : Ow F σ env a) : ∃ o, H a = some o := by
  rcases h with h | ⟨i, d, h1, h2⟩
  · obtain ⟨o, q⟩ := R.dom a h
    exact R.h0_there q
  · obtain ⟨b, h3, h4, _⟩ := R.own i d h1
    rw [h2] at h3
    cases h3
    exact h4.there
theorem Rel.fresh (R : Rel Y F σ H env) {p : Addr} (h : H p = none) : ¬ Ow F σ env p := fun z => by
  obtain ⟨o, q⟩ := R.ow_there z
  rw [h] at q; cases q
theorem Rel.fresh0 (R : Rel Y F σ H env) {p : Addr} (h : H p = none) : F.H0 p = none := by
  cases q : F.H0 p with
  | none => rfl
  | some o =>
    obtain ⟨o', q'⟩ := R.h0_there q
    rw [h] at q'; cases q'
theorem same_upd {H : Hp} {p : Addr} {o : HO} (h : H p = none) : Same H (upd H p o) := fun a u e => by rw [upd_ne (ne_of_none e h)]; exact e
theorem Rel.own_no (R : Rel Y F σ H env) {i : Nat} {d : Dt} {a : Addr} (h : env[i]? = some (Cell.own d)) (hs : σ[i]? = some (some (V.ref a))) : ¬ F.O0 a := fun z => by
  obtain ⟨b, h3, h4, h5⟩ := R.own i d h
  rw [hs] at h3
  cases h3
  rcases h5 with m | m
  · exact R.msO a m z
  · obtain ⟨o, q⟩ := R.dom a z
    rw [m] at q; cases q
end

section
variable {Y : Lay} {F : Fr} {σ : St} {H H' : Hp} {env : En} {p : Addr} {o : HO}
theorem ow_plus {b : Addr} : Ow (F.plus p o) σ env b ↔ b = p ∨ Ow F σ env b := by
  unfold Ow Fr.plus
  simp only [or_assoc]
/-- a new object that nobody knows -/
theorem Rel.plus (R : Rel Y F σ H env) (hp : H p = none) (sm : Same H H') (ho : H' p = some o) : Rel Y (F.plus p o) σ H' env := by
  have hs : Same (hide (Ow F σ env) H) (hide (Ow (F.plus p o) σ env) H') := hide_same fun a u n e => ⟨fun z => (ow_plus.mp z).elim (fun w => by rw [w, hp] at e; cases e) n, sm a u e⟩
  have h0 := R.fresh0 hp
  refine ⟨fun a z => ?_, fun a h z => ?_, R.len, fun a u h n => ?_, fun i d h => ?_, R.inj, fun i d h => ?_, R.msAt⟩
  · show ∃ u, upd F.H0 p o a = some u
    rcases z with rfl | z
    · exact ⟨o, upd_same⟩
    · obtain ⟨u, q⟩ := R.dom a z
      exact ⟨u, by rw [upd_ne (ne_of_none q h0)]; exact q⟩
  · rcases z with rfl | z
    · obtain ⟨u, q⟩ := R.ms_there h
      rw [hp] at q; cases q
    · exact R.msO a h z
  · have h' : upd F.H0 p o a = some u := h
    by_cases e : a = p
    · subst e
      rw [upd_same] at h'
      cases h'
      exact ho
    · rw [upd_ne e] at h'
      exact sm a u (R.keep a u h' n)
  · obtain ⟨a, h1, h2, h3⟩ := R.own i d h
    refine ⟨a, h1, h2.mono hs (fun u q => sm a u q), ?_⟩
    rcases h3 with h3 | h3
    · exact .inl h3
    · refine .inr ?_
      obtain ⟨u, q⟩ := h2.there
      show upd F.H0 p o a = none
      rw [upd_ne (ne_of_none q hp)]
      exact h3
  · obtain ⟨v, h1, h2⟩ := R.dat i d h
    exact ⟨v, h1, h2.mono hs⟩
/-- .. forgotten to be so -/
theorem Rel.unplus (R : Rel Y (F.plus p o) σ H env) (h0 : F.H0 p = none) (no : ¬ F.O0 p) : Rel Y F σ H env := by
  have hs : Same (hide (Ow (F.plus p o) σ env) H) (hide (Ow F σ env) H) := hide_sub fun a z => ow_plus.mpr (.inr z)
  refine ⟨fun a z => ?_, fun a h z => R.msO a h (.inr z), R.len, fun a u h n => R.keep a u ?_ n, fun i d h => ?_, R.inj, fun i d h => ?_, R.msAt⟩
  · obtain ⟨u, q⟩ := R.dom a (.inr z)
    have q' : upd F.H0 p o a = some u := q
    by_cases e : a = p
    · subst e
      exact absurd z no
    · rw [upd_ne e] at q'
      exact ⟨u, q'⟩
  · show upd F.H0 p o a = some u
    rw [upd_ne (ne_of_none h h0)]
    exact h
  · obtain ⟨a, h1, h2, h3⟩ := R.own i d h
    refine ⟨a, h1, h2.mono hs (fun _ z => z), ?_⟩
    rcases h3 with h3 | h3
    · exact .inl h3
    · refine .inr ?_
      have h3' : upd F.H0 p o a = none := h3
      by_cases e : a = p
      · rw [e]; exact h0
      · rw [upd_ne e] at h3'
        exact h3'
  · obtain ⟨v, h1, h2⟩ := R.dat i d h
    exact ⟨v, h1, h2.mono hs⟩
end

/-! ### the judgements -/
/-- an expression's result: data, or the object of one's own at a name -/
inductive R where
  | d (d : Dt) | o (i : Nat)
def toD (e : En) : R → Option Dt
  | .d d => some d
  | .o i => match e[i]? with
    | some (.own d) => some d
    | _ => none
def RAt (Y : Lay) (F : Fr) (σ : St) (env : En) (H : Hp) (v : V) : R → Prop
  | .d d => At Y (hide (Ow F σ env) H) v d
  | .o i => σ[i]? = some (some v) ∧ ∃ d, env[i]? = some (Cell.own d)

abbrev FD := En → Option (Dt × En)
abbrev FV := En → Option (R × En)
abbrev FT := En → Option (Bool × En)
/-- data -/
def tD (Y : Lay) (f : FD) : TE := fun σ H Q => ∃ F env d env', Rel Y F σ H env ∧ f env = some (d, env') ∧ ∀ v H', Rel Y F σ H' env' → Kd env env' → Stp (Ow F σ env) H (Ow F σ env') H' → At Y (hide (Ow F σ env') H') v d → Q v H'
/-- a view -/
def tV (Y : Lay) (f : FV) : TE := fun σ H Q => ∃ F env r env', Rel Y F σ H env ∧ f env = some (r, env') ∧ ∀ v H', Rel Y F σ H' env' → Kd env env' → Stp (Ow F σ env) H (Ow F σ env') H' → RAt Y F σ env' H' v r → Q v H'
/-- a new object, known to nobody -/
def tF (Y : Lay) (f : FD) : TE := fun σ H Q => ∃ F env d env', Rel Y F σ H env ∧ f env = some (d, env') ∧ ∀ p o H', H p = none → Rel Y (F.plus p o) σ H' env' → Kd env env' → Stp (Ow F σ env) H (Ow (F.plus p o) σ env') H' →
  OwnAt Y (hide (Ow (F.plus p o) σ env') H') H' p d → Q (.ref p) H'
/-- a test -/
def tT (Y : Lay) (f : FT) : TT := fun σ H Q => ∃ F env b env', Rel Y F σ H env ∧ f env = some (b, env') ∧ ∀ H', Rel Y F σ H' env' → Kd env env' → Stp (Ow F σ env) H (Ow F σ env') H' → Q b H'

abbrev _root_.L2.Cx.lay (X : Cx) : Lay := ⟨X.prog, X.w, X.K⟩
abbrev PD (X : Cx) (e : Expr) (f : FD) : Prop := PE X e (tD X.lay f)
abbrev PV (X : Cx) (e : Expr) (f : FV) : Prop := PE X e (tV X.lay f)
abbrev PF (X : Cx) (e : Expr) (f : FD) : Prop := PE X e (tF X.lay f)
abbrev PB (X : Cx) (e : Expr) (f : FT) : Prop := PT X e (tT X.lay f)

theorem _root_.L2.PE.imp {X : Cx} {e : Expr} {t t' : TE} (h : PE X e t) (k : ∀ σ H Q, t' σ H Q → t σ H Q) : PE X e t' := ⟨fun pins s σ H Q I q => h.run pins s σ H Q I (k σ H Q q)⟩
theorem _root_.L2.PT.imp {X : Cx} {e : Expr} {t t' : TT} (h : PT X e t) (k : ∀ σ H Q, t' σ H Q → t σ H Q) : PT X e t' := ⟨fun pins s σ H Q I q => h.run pins s σ H Q I (k σ H Q q)⟩
theorem _root_.L2.PS.imp {X : Cx} {e : Stmt} {t t' : TS} (h : PS X e t) (k : ∀ D σ H, t' D σ H → t D σ H) : PS X e t' := ⟨fun pins s σ H D I q => h.run pins s σ H D I (k D σ H q)⟩
theorem _root_.L2.PSs.imp {X : Cx} {e : List Stmt} {t t' : TS} (h : PSs X e t) (k : ∀ D σ H, t' D σ H → t D σ H) : PSs X e t' := ⟨fun pins s σ H D I q => h.run pins s σ H D I (k D σ H q)⟩
theorem _root_.L2.PA.imp {X : Cx} {e : List Expr} {t t' : TA} (h : PA X e t) (k : ∀ σ H Q, t' σ H Q → t σ H Q) : PA X e t' := ⟨fun pos pins s σ H Q I q => h.run pos pins s σ H Q I (k σ H Q q)⟩
theorem _root_.L2.PI.imp {X : Cx} {tg it : Expr} {t t' : TI} (h : PI X tg it t) (k : ∀ σ H Q, t' σ H Q → t σ H Q) : PI X tg it t' := ⟨fun pins s σ H Q I q => h.run pins s σ H Q I (k σ H Q q)⟩

section
variable {X : Cx} {Y : Lay} {F : Fr} {σ : St} {H H' : Hp} {env env' : En} {e : Expr}
theorem RAt.step {v : V} {r : R} (h : RAt Y F σ env H v r) (k : Kd env env') (s : Stp (Ow F σ env) H (Ow F σ env') H') : RAt Y F σ env' H' v r := by
  cases r with
  | d d => exact At.mono s.same h
  | o i => exact ⟨h.1, (k.own i).mp h.2⟩
/-- what a view shows: the object, its items as data -/
theorem RAt.see (R0 : Rel Y F σ H env) {v : V} {r : R} {d : Dt} (h : RAt Y F σ env H v r) (q : toD env r = some d) : At Y (hide F.O0 H) v d := by
  have sub : ∀ a, F.O0 a → Ow F σ env a := fun a z => Or.inl z
  cases r with
  | d d' =>
    cases q
    exact At.mono (hide_sub sub) h
  | o i =>
    obtain ⟨h1, e, h2⟩ := h
    have q' : d = e := by
      have z : toD env (R.o i) = some e := by
        show (match env[i]? with | some (.own d) => some d | _ => none) = some e
        rw [h2]
      rw [z] at q
      exact (Option.some.inj q).symm
    subst q'
    obtain ⟨a, h3, h4, h5⟩ := R0.own i d h2
    rw [h1] at h3
    cases h3
    refine h4.at (hide_sub sub) fun o z => hide_some.mpr ⟨R0.own_no h2 h1, z⟩
/-- data as a view -/
def vD (f : FD) : FV := fun e => (f e).map fun p => (R.d p.1, p.2)
theorem vw {f : FD} (h : PD X e f) : PV X e (vD f) := h.imp fun σ H Q q => by
  obtain ⟨F, env, r, env', R0, hf, k⟩ := q
  unfold vD at hf
  obtain ⟨⟨d, e1⟩, h1, h2⟩ := Option.map_eq_some_iff.mp hf
  cases h2
  exact ⟨F, env, d, e1, R0, h1, fun v H' R1 kd st a => k v H' R1 kd st a⟩
/-- a new object as data -/
theorem fr {f : FD} (h : PF X e f) : PD X e f := h.imp fun σ H Q q => by
  obtain ⟨F, env, r, env', R0, hf, k⟩ := q
  refine ⟨F, env, r, env', R0, hf, fun p o H' hp R1 kd st a => ?_⟩
  have n0 : ¬ F.O0 p := fun z => R0.fresh hp (.inl z)
  have R2 := R1.unplus (R0.fresh0 hp) n0
  have no : ¬ Ow F σ env' p := by
    rw [← kd.ow]
    exact R0.fresh hp
  have sm : Same (hide (Ow (F.plus p o) σ env') H') (hide (Ow F σ env') H') := hide_sub fun a z => ow_plus.mpr (.inr z)
  refine k _ H' R2 kd (fun b u n e => ⟨fun z => (st b u n e).1 (ow_plus.mpr (.inr z)), (st b u n e).2⟩) (a.at sm fun o z => hide_some.mpr ⟨no, z⟩)
end
end DL

set_option Elab.async false
set_option linter.all false
set_option maxRecDepth 100000
set_option autoImplicit true
/-! DL1: expressions over data: names, constants, arguments, displays, operators, comparisons, tests. -/
namespace DL
open PySem L2

/-! ### what a view shows -/
def noneD : Dt → Bool
  | .none => true
  | _ => false
inductive See (Y : Lay) (O : Addr → Prop) (H : Hp) : V → Dt → Prop
  | at {x : V} {d : Dt} : At Y (hide O H) x d → See Y O H x d
  | own {a : Addr} {d : Dt} : OwnAt Y (hide O H) H a d → See Y O H (.ref a) d
section
variable {Y : Lay} {O : Addr → Prop} {H H' : Hp} {x y : V} {d : Dt}
theorem See.full (h : See Y O H x d) : At Y H x d := by
  cases h with
  | «at» h => exact h.mono (hide_le _ _)
  | own h => exact h.at (hide_le _ _) fun _ z => z
theorem See.int {i : Int} (h : See Y O H x (.int i)) : x = .int i := by have := h.full; cases this; rfl
theorem See.bl {i : Bool} (h : See Y O H x (.bool i)) : x = .bl i := by have := h.full; cases this; rfl
theorem See.str {i : Str} (h : See Y O H x (.str i)) : x = .str i := by have := h.full; cases this; rfl
theorem See.non (h : See Y O H x .none) : x = .non := by have := h.full; cases this; rfl
theorem See.non_iff (h : See Y O H x d) : decide (x = V.non) = noneD d := by
  have := h.full
  cases this <;> rfl
theorem See.lst {ds : List Dt} (h : See Y O H x (.list ds)) : ∃ a vs, x = .ref a ∧ H a = some (.lst vs) ∧ Ats Y (hide O H) vs ds := by
  cases h with
  | «at» h =>
    cases h with
    | lst h k => exact ⟨_, _, rfl, hide_le _ _ _ _ h, k⟩
  | own h =>
    cases h with
    | lst h k => exact ⟨_, _, rfl, h, k⟩
theorem See.tup {ds : List Dt} (h : See Y O H x (.tuple ds)) : ∃ a vs, x = .ref a ∧ SqT Y.K H a vs ∧ Ats Y (hide O H) vs ds := by
  cases h with
  | «at» h =>
    cases h with
    | tup h k => exact ⟨_, _, rfl, Same.seqT (hide_le _ _) h, k⟩
  | own h => cases h
end
theorem AtK.no_none {Y : Lay} {H : Hp} {kvs : List (Key × V)} {d : Dt} {ps : List (Dt × Dt)} (h : AtK Y H kvs ((.none, d) :: ps)) : False := by cases h
theorem AtN.no_none {Y : Lay} {H : Hp} {kvs : List NEnt} {d : Dt} {ps : List (Dt × Dt)} (h : AtN Y H kvs ((.none, d) :: ps)) : False := by
  cases h with
  | cons h _ _ _ => cases h
abbrev scrD (ds : List Dt) : Dt := .dict [(.none, .list ds)]
theorem See.scr {Y : Lay} {O : Addr → Prop} {H : Hp} {x : V} {ds : List Dt} (h : See Y O H x (scrD ds)) : ∃ a vs, x = .ref a ∧ SqL Y.K H a vs ∧ Ats Y (hide O H) vs ds := by
  cases h with
  | «at» h =>
    cases h with
    | scr h k => exact ⟨_, _, rfl, Same.seq (hide_le _ _) h, k⟩
    | dicK h k _ => exact k.no_none.elim
    | dicN h k => exact k.no_none.elim
  | own h =>
    cases h with
    | dicK h k _ => exact k.no_none.elim
    | dicN h k => exact k.no_none.elim
inductive Sees (Y : Lay) (O : Addr → Prop) (H : Hp) : List V → List Dt → Prop
  | nil : Sees Y O H [] []
  | cons {x : V} {xs : List V} {d : Dt} {ds : List Dt} : See Y O H x d → Sees Y O H xs ds → Sees Y O H (x :: xs) (d :: ds)

section
variable {Y : Lay} {F : Fr} {σ : St} {H H' : Hp} {env env' : En}
theorem RAt.see' (R0 : Rel Y F σ H env) {v : V} {r : R} {d : Dt} (h : RAt Y F σ env H v r) (q : toD env r = some d) : See Y (Ow F σ env) H v d := by
  cases r with
  | d d' =>
    cases q
    exact .at h
  | o i =>
    obtain ⟨h1, e, h2⟩ := h
    have q' : d = e := by
      have z : toD env (R.o i) = some e := by
        show (match env[i]? with | some (.own d) => some d | _ => none) = some e
        rw [h2]
      rw [z] at q
      exact (Option.some.inj q).symm
    subst q'
    obtain ⟨a, h3, h4, h5⟩ := R0.own i d h2
    rw [h1] at h3
    cases h3
    exact .own h4
end

/-! ### a list of arguments -/
inductive RAts (Y : Lay) (F : Fr) (σ : St) (env : En) (H : Hp) : List V → List R → Prop
  | nil : RAts Y F σ env H [] []
  | cons {v : V} {vs : List V} {r : R} {rs : List R} : RAt Y F σ env H v r → RAts Y F σ env H vs rs → RAts Y F σ env H (v :: vs) (r :: rs)
abbrev FA := En → Option (List R × En)
def tA (Y : Lay) (f : FA) : TA := fun σ H Q => ∃ F env rs env', Rel Y F σ H env ∧ f env = some (rs, env') ∧ ∀ vs H', Rel Y F σ H' env' → Kd env env' → Stp (Ow F σ env) H (Ow F σ env') H' → RAts Y F σ env' H' vs rs → Q vs H'
abbrev PAs (X : Cx) (es : List Expr) (f : FA) : Prop := PA X es (tA X.lay f)
def aN : FA := fun e => some ([], e)
def aC (f : FV) (g : FA) : FA := fun e => (f e).bind fun p => (g p.2).bind fun q => some (p.1 :: q.1, q.2)
def toDs (e : En) : List R → Option (List Dt)
  | [] => some []
  | r :: rs => (toD e r).bind fun d => (toDs e rs).bind fun ds => some (d :: ds)
def allD : List R → Option (List Dt)
  | [] => some []
  | .d d :: rs => (allD rs).bind fun ds => some (d :: ds)
  | .o _ :: _ => none
section
variable {X : Cx} {Y : Lay} {F : Fr} {σ : St} {H H' : Hp} {env env' : En} {e : Expr} {es : List Expr}
theorem RAts.step : ∀ {vs : List V} {rs : List R}, RAts Y F σ env H vs rs → Kd env env' → Stp (Ow F σ env) H (Ow F σ env') H' → RAts Y F σ env' H' vs rs
  | _, _, .nil, _, _ => .nil
  | _, _, .cons h k, kd, s => .cons (h.step kd s) (RAts.step k kd s)
theorem RAts.length : ∀ {vs : List V} {rs : List R}, RAts Y F σ env H vs rs → vs.length = rs.length
  | _, _, .nil => rfl
  | _, _, .cons _ k => by simp [RAts.length k]
theorem RAts.sees (R0 : Rel Y F σ H env) : ∀ {vs : List V} {rs : List R} {ds : List Dt}, RAts Y F σ env H vs rs → toDs env rs = some ds → Sees Y (Ow F σ env) H vs ds
  | _, _, _, .nil, q => by cases q; exact .nil
  | _, _, _, .cons h k, q => by
    obtain ⟨d, q1, q⟩ := Option.bind_eq_some_iff.mp q
    obtain ⟨ds, q2, q⟩ := Option.bind_eq_some_iff.mp q
    cases q
    exact .cons (h.see' R0 q1) (RAts.sees R0 k q2)
theorem RAts.ats : ∀ {vs : List V} {rs : List R} {ds : List Dt}, RAts Y F σ env H vs rs → allD rs = some ds → Ats Y (hide (Ow F σ env) H) vs ds
  | _, _, _, .nil, q => by cases q; exact .nil
  | _, _, _, @RAts.cons _ _ _ _ _ _ _ r _ h k, q => by
    cases r with
    | d d =>
      obtain ⟨ds, q2, q⟩ := Option.bind_eq_some_iff.mp q
      cases q
      exact .cons h (RAts.ats k q2)
    | o i => cases q
theorem pas_nil : PAs X [] aN := PA.imp pa_nil fun σ H Q q => by
  obtain ⟨F, env, rs, env', R0, hf, k⟩ := q
  cases hf
  exact k [] H R0 (Kd.refl _) Stp.refl .nil
theorem pas_cons {f : FV} {g : FA} (ha : PV X e f) (hr : PAs X es g) (hs : starEach (e :: es) X.env = (false, eval e X.env) :: starEach es X.env := by rfl) : PAs X (e :: es) (aC f g) := PA.imp (pa_cons ha hr hs) fun σ H Q q => by
  obtain ⟨F, env, rs, env', R0, hf, k⟩ := q
  obtain ⟨⟨r, e1⟩, h1, hf⟩ := Option.bind_eq_some_iff.mp hf
  obtain ⟨⟨rs2, e2⟩, h2, hf⟩ := Option.bind_eq_some_iff.mp hf
  cases hf
  exact ⟨F, env, r, e1, R0, h1, fun v H1 R1 kd1 s1 a1 => ⟨F, e1, rs2, _, R1, h2, fun vs H2 R2 kd2 s2 a2 => k (v :: vs) H2 R2 (kd1.trans kd2) (s1.trans s2) (.cons (a1.step kd2 s2) a2)⟩⟩
end

/-! ### names and constants -/
def xV (i : Nat) : FV := fun e => match e[i]? with
  | some (.dat d) => some (.d d, e)
  | some (.own _) => some (.o i, e)
  | _ => none
def xD (i : Nat) : FD := fun e => match e[i]? with
  | some (.dat d) => some (d, e)
  | _ => none
def kD (d : Dt) : FD := fun e => some (d, e)
section
variable {X : Cx} {Y : Lay} {F : Fr} {σ : St} {H H' : Hp} {env env' : En} {e : Expr}
theorem xv (i : Nat) {x : Str} {pos : Pos} (hN : X.N[i]? = some x := by rfl) (hv : Vis X.env.scope x := by first | exact Or.inl rfl | exact Or.inr (Or.inl rfl) | exact Or.inr (Or.inr rfl)) (hd : (x == ("__debug__" : Str)) = false := by decide)
    (hcd : (x == ("__classdict__" : Str)) = false := by decide) : PV X (.Name x pos) (xV i) := (pe_var hN hv hd hcd).imp fun σ H Q q => by
  obtain ⟨F, env, r, env', R0, hf, k⟩ := q
  unfold xV at hf
  cases hc : env[i]? with
  | none => rw [hc] at hf; cases hf
  | some c =>
    rw [hc] at hf
    cases c with
    | un => cases hf
    | dat d =>
      cases hf
      obtain ⟨v, h1, h2⟩ := R0.dat i d hc
      exact ⟨v, h1, k v H R0 (Kd.refl _) Stp.refl h2⟩
    | own d =>
      cases hf
      obtain ⟨a, h1, h2, _⟩ := R0.own i d hc
      exact ⟨_, h1, k _ H R0 (Kd.refl _) Stp.refl ⟨h1, d, hc⟩⟩
theorem xd (i : Nat) {x : Str} {pos : Pos} (hN : X.N[i]? = some x := by rfl) (hv : Vis X.env.scope x := by first | exact Or.inl rfl | exact Or.inr (Or.inl rfl) | exact Or.inr (Or.inr rfl)) (hd : (x == ("__debug__" : Str)) = false := by decide)
    (hcd : (x == ("__classdict__" : Str)) = false := by decide) : PD X (.Name x pos) (xD i) := (pe_var hN hv hd hcd).imp fun σ H Q q => by
  obtain ⟨F, env, r, env', R0, hf, k⟩ := q
  unfold xD at hf
  cases hc : env[i]? with
  | none => rw [hc] at hf; cases hf
  | some c =>
    rw [hc] at hf
    cases c with
    | un => cases hf
    | dat d =>
      cases hf
      obtain ⟨v, h1, h2⟩ := R0.dat i _ hc
      exact ⟨v, h1, k v H R0 (Kd.refl _) Stp.refl h2⟩
    | own d => cases hf
/-- a constant's term -/
theorem cst {v : V} {d : Dt} (h : PE X e (tC v)) (ha : ∀ H, At X.lay H v d) : PD X e (kD d) := h.imp fun σ H Q q => by
  obtain ⟨F, env, r, env', R0, hf, k⟩ := q
  cases hf
  exact k v H R0 (Kd.refl _) Stp.refl (ha _)
theorem ci {i : Int} {j : Nat} {pos : Pos} : PD X (.Constant (.int i) j pos) (kD (.int i)) := cst pe_int fun _ => .int i
theorem cb {b : Bool} {j : Nat} {pos : Pos} : PD X (.Constant (.bool b) j pos) (kD (.bool b)) := cst pe_bl fun _ => .bl b
theorem cn {j : Nat} {pos : Pos} : PD X (.Constant .none j pos) (kD .none) := cst pe_non fun _ => .non
theorem cs {x : Str} {j : Nat} {pos : Pos} : PD X (.Constant (.str x) j pos) (kD (.str x)) := cst pe_str fun _ => .str x
/-- a constant of the module -/
structure GCon (Y : Lay) (mg : Str → Option Value) (x : Str) (d : Dt) : Prop where
  ex : ∃ v u, mg x = some u ∧ RelV v u ∧ ∀ H, At Y H v d
theorem cg {x : Str} {d : Dt} {pos : Pos} (c : GCon X.lay X.mg x d) (hg : Gl X x := by rfl) (hd : (x == ("__debug__" : Str)) = false := by decide) : PD X (.Name x pos) (kD d) := by
  obtain ⟨v, u, h1, h2, h3⟩ := c.ex
  exact cst (pe_glob hg h1 h2 hd) h3

/-! ### the end of a new object -/
theorem fresh_back {Y : Lay} {F : Fr} {σ : St} {H H1 : Hp} {env env' : En} (R1 : Rel Y F σ H1 env') (kd : Kd env env') (s1 : Stp (Ow F σ env) H (Ow F σ env') H1) {p : Addr} (hp : H1 p = none) : H p = none := by
  cases q : H p with
  | none => rfl
  | some o =>
    exfalso
    by_cases z : Ow F σ env p
    · rw [kd.ow] at z
      exact R1.fresh hp z
    · have := (s1 p o z q).2
      rw [hp] at this; cases this
theorem new_own {Y : Lay} {O : Addr → Prop} {H H' : Hp} {p : Addr} {d : Dt} (hp : H p = none) (sm : Same H H') (h : Same (hide O H) (hide (fun a => a = p ∨ O a) H') → OwnAt Y (hide (fun a => a = p ∨ O a) H') H' p d) : OwnAt Y (hide (fun a => a = p ∨ O a) H') H' p d :=
  h (hide_same fun a o n e => ⟨fun z => z.elim (fun w => by rw [w, hp] at e; cases e) n, sm a o e⟩)
theorem fresh_fin {Y : Lay} {F : Fr} {σ : St} {H H1 H' : Hp} {env env' : En} {p : Addr} {o : HO} {d : Dt} {Z : Prop} (R0 : Rel Y F σ H env) (R1 : Rel Y F σ H1 env') (kd : Kd env env') (s1 : Stp (Ow F σ env) H (Ow F σ env') H1) (sm : Same H1 H') (hp : H1 p = none) (ho : H' p = some o)
    (a : OwnAt Y (hide (fun a => a = p ∨ Ow F σ env' a) H') H' p d) (k : H p = none → Rel Y (F.plus p o) σ H' env' → Kd env env' → Stp (Ow F σ env) H (Ow (F.plus p o) σ env') H' → OwnAt Y (hide (Ow (F.plus p o) σ env') H') H' p d → Z) : Z := by
  have hp0 := fresh_back R1 kd s1 hp
  have e : (fun a => a = p ∨ Ow F σ env' a) = Ow (F.plus p o) σ env' := funext fun b => propext ow_plus.symm
  rw [e] at a
  refine k hp0 (R1.plus hp sm ho) kd (fun b u n q => ?_) a
  have q1 := s1 b u n q
  exact ⟨fun z => (ow_plus.mp z).elim (fun w => by rw [w, hp] at q1; cases q1.2) q1.1, sm b u q1.2⟩

/-! ### displays -/
def tupD (f : FA) : FD := fun e => (f e).bind fun q => (allD q.1).bind fun ds => if ds.length ≤ 10000 then some (.tuple ds, q.2) else none
def lstD (f : FA) : FD := fun e => (f e).bind fun q => (allD q.1).bind fun ds => if ds.length ≤ 10000 then some (.list ds, q.2) else none
theorem le_line {n : Nat} (h : n ≤ 10000) : n ≤ sizeLine := Nat.le_trans h (by decide)
theorem d_tup {es : List Expr} {f : FA} {x1 : Nat} {pos : Pos} (h : PAs X es f) : PD X (.Tuple es x1 pos) (tupD f) := (pe_tup h).imp fun σ H Q q => by
  obtain ⟨F, env, d, env', R0, hf, k⟩ := q
  obtain ⟨⟨rs, e1⟩, h1, hf⟩ := Option.bind_eq_some_iff.mp hf
  obtain ⟨ds, h2, hf⟩ := Option.bind_eq_some_iff.mp hf
  split at hf
  · rename_i hz
    cases hf
    refine ⟨F, env, rs, _, R0, h1, fun vs H1 R1 kd1 s1 a1 => ?_⟩
    have a2 := a1.ats h2
    refine ⟨le_line (by rw [a2.length]; exact hz), fun p hp => ?_⟩
    have sm : Same H1 (upd H1 p (.tup vs)) := same_upd hp
    refine k _ _ (R1.same sm) kd1 (s1.trans (Stp.of sm)) (.tup (SqT.of (hide_some.mpr ⟨R1.fresh hp, upd_same⟩)) (a2.mono (hide_mono sm)))
  · cases hf
theorem f_lst {es : List Expr} {f : FA} {pos : Pos} (h : PAs X es f) : PF X (.List es pos) (lstD f) := (pe_lst h).imp fun σ H Q q => by
  obtain ⟨F, env, d, env', R0, hf, k⟩ := q
  obtain ⟨⟨rs, e1⟩, h1, hf⟩ := Option.bind_eq_some_iff.mp hf
  obtain ⟨ds, h2, hf⟩ := Option.bind_eq_some_iff.mp hf
  split at hf
  · rename_i hz
    cases hf
    refine ⟨F, env, rs, _, R0, h1, fun vs H1 R1 kd1 s1 a1 => ?_⟩
    have a2 := a1.ats h2
    refine ⟨le_line (by rw [a2.length]; exact hz), fun p hp => ?_⟩
    have sm : Same H1 (upd H1 p (.lst vs)) := same_upd hp
    exact fresh_fin R0 R1 kd1 s1 sm hp upd_same (new_own hp sm (fun hs => .lst upd_same (a2.mono hs))) (k p _ _)
  · cases hf
end

/-! ### operators by values -/
/-- the reading r gives at least what g says -/
def Sem2 (Y : Lay) (r : R2) (g : Dt → Dt → Option Dt) : Prop := ∀ (O : Addr → Prop) (H : Hp) (x y : V) (dx dy d : Dt) (Q : VK), (∀ a, O a → ∃ o, H a = some o) → See Y O H x dx → See Y O H y dy → g dx dy = some d →
  (∀ v H', Same H H' → At Y (hide O H') v d → Q v H') → r x y H Q
def SemC (Y : Lay) (r : List V → Hp → VK → Prop) (g : List Dt → Option Dt) : Prop := ∀ (O : Addr → Prop) (H : Hp) (xs : List V) (ds : List Dt) (d : Dt) (Q : VK), (∀ a, O a → ∃ o, H a = some o) → Sees Y O H xs ds → g ds = some d →
  (∀ v H', Same H H' → At Y (hide O H') v d → Q v H') → r xs H Q
/-- .. of a new object -/
def SemF2 (Y : Lay) (r : R2) (g : Dt → Dt → Option Dt) : Prop := ∀ (O : Addr → Prop) (H : Hp) (x y : V) (dx dy d : Dt) (Q : VK), (∀ a, O a → ∃ o, H a = some o) → See Y O H x dx → See Y O H y dy → g dx dy = some d →
  (∀ p o H', H p = none → H' p = some o → Same H H' → OwnAt Y (hide (fun a => a = p ∨ O a) H') H' p d → Q (.ref p) H') → r x y H Q
def SemFC (Y : Lay) (r : List V → Hp → VK → Prop) (g : List Dt → Option Dt) : Prop := ∀ (O : Addr → Prop) (H : Hp) (xs : List V) (ds : List Dt) (d : Dt) (Q : VK), (∀ a, O a → ∃ o, H a = some o) → Sees Y O H xs ds → g ds = some d →
  (∀ p o H', H p = none → H' p = some o → Same H H' → OwnAt Y (hide (fun a => a = p ∨ O a) H') H' p d → Q (.ref p) H') → r xs H Q
def binD (g : Dt → Dt → Option Dt) (fa fb : FV) : FD := fun e => (fa e).bind fun p => (fb p.2).bind fun q => (toD q.2 p.1).bind fun x => (toD q.2 q.1).bind fun y => (g x y).bind fun d => some (d, q.2)
def callD (g : List Dt → Option Dt) (f : FA) : FD := fun e => (f e).bind fun q => (toDs q.2 q.1).bind fun ds => (g ds).bind fun d => some (d, q.2)
theorem SemF2.sem {Y : Lay} {r : R2} {g : Dt → Dt → Option Dt} (h : SemF2 Y r g) : Sem2 Y r g := fun O H x y dx dy d Q hO hx hy hg k =>
  h O H x y dx dy d Q hO hx hy hg fun p o H' hp ho sm a => k _ _ sm (a.at (hide_sub fun _ z => .inr z) fun o z => hide_some.mpr ⟨(fun w => let ⟨u, e⟩ := hO p w; absurd (hp.symm.trans e) (by simp)), z⟩)
section
variable {X : Cx} {Y : Lay} {F : Fr} {σ : St} {H H' : Hp} {env env' : En} {a b e : Expr} {es : List Expr}
/-- the pattern of two operands -/
theorem bin_use {r : R2} {g : Dt → Dt → Option Dt} {fa fb : FV} (hg : Sem2 Y r g) : ∀ σ H Q, tD Y (binD g fa fb) σ H Q → tOp r (tV Y fa) (tV Y fb) σ H Q := fun σ H Q q => by
  obtain ⟨F, env, d, env', R0, hf, k⟩ := q
  obtain ⟨⟨r1, e1⟩, h1, hf⟩ := Option.bind_eq_some_iff.mp hf
  obtain ⟨⟨r2, e2⟩, h2, hf⟩ := Option.bind_eq_some_iff.mp hf
  obtain ⟨x, h3, hf⟩ := Option.bind_eq_some_iff.mp hf
  obtain ⟨y, h4, hf⟩ := Option.bind_eq_some_iff.mp hf
  obtain ⟨z, h5, hf⟩ := Option.bind_eq_some_iff.mp hf
  cases hf
  refine ⟨F, env, r1, e1, R0, h1, fun v1 H1 R1 kd1 s1 a1 => ⟨F, e1, r2, _, R1, h2, fun v2 H2 R2 kd2 s2 a2 => ?_⟩⟩
  exact hg _ H2 v1 v2 x y d Q (fun a h => R2.ow_there h) ((a1.step kd2 s2).see' R2 h3) (a2.see' R2 h4) h5 fun v H' sm at' => k v H' (R2.same sm) (kd1.trans kd2) ((s1.trans s2).trans (Stp.of sm)) at'
theorem bin_useF {r : R2} {g : Dt → Dt → Option Dt} {fa fb : FV} (hg : SemF2 Y r g) : ∀ σ H Q, tF Y (binD g fa fb) σ H Q → tOp r (tV Y fa) (tV Y fb) σ H Q := fun σ H Q q => by
  obtain ⟨F, env, d, env', R0, hf, k⟩ := q
  obtain ⟨⟨r1, e1⟩, h1, hf⟩ := Option.bind_eq_some_iff.mp hf
  obtain ⟨⟨r2, e2⟩, h2, hf⟩ := Option.bind_eq_some_iff.mp hf
  obtain ⟨x, h3, hf⟩ := Option.bind_eq_some_iff.mp hf
  obtain ⟨y, h4, hf⟩ := Option.bind_eq_some_iff.mp hf
  obtain ⟨z, h5, hf⟩ := Option.bind_eq_some_iff.mp hf
  cases hf
  refine ⟨F, env, r1, e1, R0, h1, fun v1 H1 R1 kd1 s1 a1 => ⟨F, e1, r2, _, R1, h2, fun v2 H2 R2 kd2 s2 a2 => ?_⟩⟩
  refine hg _ H2 v1 v2 x y d Q (fun a h => R2.ow_there h) ((a1.step kd2 s2).see' R2 h3) (a2.see' R2 h4) h5 fun p o H' hp ho sm at' => ?_
  exact fresh_fin R0 R2 (kd1.trans kd2) (s1.trans s2) sm hp ho at' (k p _ _)
theorem call_use {r : List V → Hp → VK → Prop} {g : List Dt → Option Dt} {f : FA} (hg : SemC Y r g) : ∀ σ H Q, tD Y (callD g f) σ H Q → tCB r (tA Y f) σ H Q := fun σ H Q q => by
  obtain ⟨F, env, d, env', R0, hf, k⟩ := q
  obtain ⟨⟨rs, e1⟩, h1, hf⟩ := Option.bind_eq_some_iff.mp hf
  obtain ⟨ds, h3, hf⟩ := Option.bind_eq_some_iff.mp hf
  obtain ⟨z, h5, hf⟩ := Option.bind_eq_some_iff.mp hf
  cases hf
  refine ⟨F, env, rs, _, R0, h1, fun vs H2 R2 kd2 s2 a2 => ?_⟩
  exact hg _ H2 vs ds d Q (fun a h => R2.ow_there h) (a2.sees R2 h3) h5 fun v H' sm at' => k v H' (R2.same sm) kd2 (s2.trans (Stp.of sm)) at'
theorem call_useF {r : List V → Hp → VK → Prop} {g : List Dt → Option Dt} {f : FA} (hg : SemFC Y r g) : ∀ σ H Q, tF Y (callD g f) σ H Q → tCB r (tA Y f) σ H Q := fun σ H Q q => by
  obtain ⟨F, env, d, env', R0, hf, k⟩ := q
  obtain ⟨⟨rs, e1⟩, h1, hf⟩ := Option.bind_eq_some_iff.mp hf
  obtain ⟨ds, h3, hf⟩ := Option.bind_eq_some_iff.mp hf
  obtain ⟨z, h5, hf⟩ := Option.bind_eq_some_iff.mp hf
  cases hf
  refine ⟨F, env, rs, _, R0, h1, fun vs H2 R2 kd2 s2 a2 => ?_⟩
  refine hg _ H2 vs ds d Q (fun a h => R2.ow_there h) (a2.sees R2 h3) h5 fun p o H' hp ho sm at' => ?_
  exact fresh_fin R0 R2 kd2 s2 sm hp ho at' (k p _ _)
theorem d_op {op : Operator} {r : R2} {g : Dt → Dt → Option Dt} {fa fb : FV} {pos : Pos} (ho : OpR X (binaryOp op) r) (hg : Sem2 X.lay r g) (ha : PV X a fa) (hb : PV X b fb) : PD X (.BinOp a op b pos) (binD g fa fb) := (pe_op ho ha hb).imp (bin_use hg)
theorem f_op {op : Operator} {r : R2} {g : Dt → Dt → Option Dt} {fa fb : FV} {pos : Pos} (ho : OpR X (binaryOp op) r) (hg : SemF2 X.lay r g) (ha : PV X a fa) (hb : PV X b fb) : PF X (.BinOp a op b pos) (binD g fa fb) := (pe_op ho ha hb).imp (bin_useF hg)
theorem d_cmp {op : CmpOp} {r : R2} {g : Dt → Dt → Option Dt} {fa fb : FV} {pos : Pos} (ho : OpR X (compareOp op) r) (hg : Sem2 X.lay r g) (ha : PV X a fa) (hb : PV X b fb) (hm : behindInMarks op b = false) : PD X (.Compare a [op] [b] pos) (binD g fa fb) := (pe_cmpR ho ha hb hm).imp (bin_use hg)
theorem d_ix {r : R2} {g : Dt → Dt → Option Dt} {fa fb : FV} {pos : Pos} (ho : IxR X r) (hg : Sem2 X.lay r g) (ha : PV X a fa) (hb : PV X b fb) (hs : PlainIx b := by exact fun _ _ => rfl) : PD X (.Subscript a b pos) (binD g fa fb) := (pe_ix ho ha hb hs).imp (bin_use hg)

/-! ### tests -/
/-- a test from a bool -/
def vT (f : FD) : FT := fun e => (f e).bind fun p => match p.1 with
  | .bool b => some (b, p.2)
  | _ => none
theorem vT_some {f : FD} {env : En} {b : Bool} {env' : En} (h : vT f env = some (b, env')) : f env = some (.bool b, env') := by
  obtain ⟨⟨d, e1⟩, h1, hf⟩ := Option.bind_eq_some_iff.mp h
  cases d with
  | bool c => cases hf; exact h1
  | none => cases hf
  | int _ => cases hf
  | str _ => cases hf
  | list _ => cases hf
  | tuple _ => cases hf
  | dict _ => cases hf
theorem test_use {f : FD} : ∀ σ H Q, tT Y (vT f) σ H Q → tTest (tD Y f) σ H Q := fun σ H Q q => by
  obtain ⟨F, env, b, env', R0, hf, k⟩ := q
  refine ⟨F, env, _, env', R0, vT_some hf, fun v H' R1 kd st a => ?_⟩
  cases a
  exact ⟨b, rfl, k H' R1 kd st⟩
theorem t_val {f : FD} (h : PD X e f) (he : ∀ whole, isTrue e X.env whole = (do let v ← whole; standAt e.pos; holding [v] (truthy v)) := by intro _; rfl) : PB X e (vT f) := (pt_val h he).imp test_use
theorem t_cmp {op : CmpOp} {r : R2} {g : Dt → Dt → Option Dt} {fa fb : FV} {pos : Pos} (ho : OpR X (compareOp op) r) (hg : Sem2 X.lay r g) (ha : PV X a fa) (hb : PV X b fb) (hm : behindInMarks op b = false) : PB X (.Compare a [op] [b] pos) (vT (binD g fa fb)) :=
  (pt_cmpR ho ha hb hm).imp fun σ H Q q => by
    obtain ⟨F, env, b, env', R0, hf, k⟩ := q
    refine bin_use hg σ H _ ⟨F, env, _, env', R0, vT_some hf, fun v H' R1 kd st a => ?_⟩
    cases a
    exact ⟨b, rfl, k H' R1 kd st⟩
/-- is None -/
def isN (f : FV) : FD := fun e => (f e).bind fun p => (toD p.2 p.1).bind fun x => some (.bool (noneD x), p.2)
def notN (f : FV) : FD := fun e => (f e).bind fun p => (toD p.2 p.1).bind fun x => some (.bool (!noneD x), p.2)
theorem isN_use {f : FV} : ∀ σ H Q, tD Y (isN f) σ H Q → tIsN (tV Y f) σ H Q := fun σ H Q q => by
  obtain ⟨F, env, d, env', R0, hf, k⟩ := q
  obtain ⟨⟨r, e1⟩, h1, hf⟩ := Option.bind_eq_some_iff.mp hf
  obtain ⟨x, h3, hf⟩ := Option.bind_eq_some_iff.mp hf
  cases hf
  refine ⟨F, env, r, _, R0, h1, fun v H1 R1 kd s a => ?_⟩
  show Q (.bl (decide (v = V.non))) H1
  rw [(a.see' R1 h3).non_iff]
  exact k _ H1 R1 kd s (.bl _)
theorem notN_use {f : FV} : ∀ σ H Q, tD Y (notN f) σ H Q → tNotN (tV Y f) σ H Q := fun σ H Q q => by
  obtain ⟨F, env, d, env', R0, hf, k⟩ := q
  obtain ⟨⟨r, e1⟩, h1, hf⟩ := Option.bind_eq_some_iff.mp hf
  obtain ⟨x, h3, hf⟩ := Option.bind_eq_some_iff.mp hf
  cases hf
  refine ⟨F, env, r, _, R0, h1, fun v H1 R1 kd s a => ?_⟩
  show Q (.bl (!decide (v = V.non))) H1
  rw [(a.see' R1 h3).non_iff]
  exact k _ H1 R1 kd s (.bl _)
theorem d_isN {f : FV} {j : Nat} {pos pos' : Pos} (h : PV X a f) : PD X (.Compare a [.Is] [.Constant .none j pos'] pos) (isN f) := (pe_cmp (pc_isN h) rfl).imp isN_use
theorem d_notN {f : FV} {j : Nat} {pos pos' : Pos} (h : PV X a f) : PD X (.Compare a [.IsNot] [.Constant .none j pos'] pos) (notN f) := (pe_cmp (pc_notN h) rfl).imp notN_use
theorem t_isN {f : FV} {j : Nat} {pos pos' : Pos} (h : PV X a f) : PB X (.Compare a [.Is] [.Constant .none j pos'] pos) (vT (isN f)) := (pt_cmp (pc_isN h) rfl).imp fun σ H Q q => by
  obtain ⟨F, env, b, env', R0, hf, k⟩ := q
  refine isN_use σ H _ ⟨F, env, _, env', R0, vT_some hf, fun v H' R1 kd st a => ?_⟩
  cases a
  exact ⟨b, rfl, k H' R1 kd st⟩
theorem t_notN {f : FV} {j : Nat} {pos pos' : Pos} (h : PV X a f) : PB X (.Compare a [.IsNot] [.Constant .none j pos'] pos) (vT (notN f)) := (pt_cmp (pc_notN h) rfl).imp fun σ H Q q => by
  obtain ⟨F, env, b, env', R0, hf, k⟩ := q
  refine notN_use σ H _ ⟨F, env, _, env', R0, vT_some hf, fun v H' R1 kd st a => ?_⟩
  cases a
  exact ⟨b, rfl, k H' R1 kd st⟩
/-! and, or, not -/
def andT (f g : FT) : FT := fun e => (f e).bind fun p => if p.1 = true then g p.2 else some (false, p.2)
def orT (f g : FT) : FT := fun e => (f e).bind fun p => if p.1 = true then some (true, p.2) else g p.2
def notT (f : FT) : FT := fun e => (f e).bind fun p => some (!p.1, p.2)
abbrev PWB (X : Cx) (e : Expr) (f : FT) : Prop := PW X e (tT X.lay f)
theorem _root_.L2.PW.imp {X : Cx} {e : Expr} {t t' : TT} (h : PW X e t) (k : ∀ σ H Q, t' σ H Q → t σ H Q) : PW X e t' := ⟨fun wh pins s σ H Q I q => h.run wh pins s σ H Q I (k σ H Q q)⟩
variable {rest : List Expr} {pos : Pos}
theorem w_and1 {f : FT} (h : PB X a f) : PWB X (.BoolOp .And [a] pos) f := pw_and1 h
theorem w_or1 {f : FT} (h : PB X a f) : PWB X (.BoolOp .Or [a] pos) f := pw_or1 h
theorem w_and {f g : FT} (h : PB X a f) (k : PWB X (.BoolOp .And (b :: rest) pos) g) : PWB X (.BoolOp .And (a :: b :: rest) pos) (andT f g) := (pw_and h k).imp fun σ H Q q => by
  obtain ⟨F, env, b, env', R0, hf, k⟩ := q
  obtain ⟨⟨c, e1⟩, h1, hf⟩ := Option.bind_eq_some_iff.mp hf
  refine ⟨F, env, c, e1, R0, h1, fun H1 R1 kd1 s1 => ?_⟩
  cases c with
  | true => exact ⟨F, e1, b, env', R1, by simpa using hf, fun H2 R2 kd2 s2 => k H2 R2 (kd1.trans kd2) (s1.trans s2)⟩
  | false =>
    simp only [Bool.false_eq_true, if_false, Option.some.injEq, Prod.mk.injEq] at hf ⊢
    obtain ⟨rfl, rfl⟩ := hf
    exact k H1 R1 kd1 s1
theorem w_or {f g : FT} (h : PB X a f) (k : PWB X (.BoolOp .Or (b :: rest) pos) g) : PWB X (.BoolOp .Or (a :: b :: rest) pos) (orT f g) := (pw_or h k).imp fun σ H Q q => by
  obtain ⟨F, env, b, env', R0, hf, k⟩ := q
  obtain ⟨⟨c, e1⟩, h1, hf⟩ := Option.bind_eq_some_iff.mp hf
  refine ⟨F, env, c, e1, R0, h1, fun H1 R1 kd1 s1 => ?_⟩
  cases c with
  | false => exact ⟨F, e1, b, env', R1, by simpa using hf, fun H2 R2 kd2 s2 => k H2 R2 (kd1.trans kd2) (s1.trans s2)⟩
  | true =>
    simp only [if_true, Option.some.injEq, Prod.mk.injEq] at hf ⊢
    obtain ⟨rfl, rfl⟩ := hf
    exact k H1 R1 kd1 s1
theorem t_w {f : FT} (h : PWB X e f) : PB X e f := h.pt
theorem t_not {f : FT} (h : PB X a f) : PB X (.UnaryOp .Not a pos) (notT f) := (pt_not h).imp fun σ H Q q => by
  obtain ⟨F, env, b, env', R0, hf, k⟩ := q
  obtain ⟨⟨c, e1⟩, h1, hf⟩ := Option.bind_eq_some_iff.mp hf
  cases hf
  exact ⟨F, env, c, _, R0, h1, k⟩
/-! .. as values: all but the last a bool -/
def andV (f g : FD) : FD := fun e => (f e).bind fun p => match p.1 with
  | .bool true => g p.2
  | .bool false => some (.bool false, p.2)
  | _ => none
def orV (f g : FD) : FD := fun e => (f e).bind fun p => match p.1 with
  | .bool true => some (.bool true, p.2)
  | .bool false => g p.2
  | _ => none
def notV (f : FD) : FD := fun e => (f e).bind fun p => match p.1 with
  | .bool b => some (.bool (!b), p.2)
  | _ => none
theorem d_one {op : BoolOp} {f : FD} (h : PD X a f) : PD X (.BoolOp op [a] pos) f := pe_one h
theorem d_and {f g : FD} (h : PD X a f) (k : PD X (.BoolOp .And (b :: rest) pos) g) : PD X (.BoolOp .And (a :: b :: rest) pos) (andV f g) := (pe_and h k).imp fun σ H Q q => by
  obtain ⟨F, env, d, env', R0, hf, k⟩ := q
  obtain ⟨⟨c, e1⟩, h1, hf⟩ := Option.bind_eq_some_iff.mp hf
  refine ⟨F, env, c, e1, R0, h1, fun v H1 R1 kd1 s1 a1 => ?_⟩
  cases c with
  | bool c =>
    cases a1
    refine ⟨c, rfl, ?_⟩
    cases c with
    | true => exact ⟨F, e1, d, env', R1, hf, fun v H2 R2 kd2 s2 a2 => k v H2 R2 (kd1.trans kd2) (s1.trans s2) a2⟩
    | false =>
      cases hf
      exact k _ H1 R1 kd1 s1 (.bl _)
  | none => cases hf
  | int _ => cases hf
  | str _ => cases hf
  | list _ => cases hf
  | tuple _ => cases hf
  | dict _ => cases hf
theorem d_or {f g : FD} (h : PD X a f) (k : PD X (.BoolOp .Or (b :: rest) pos) g) : PD X (.BoolOp .Or (a :: b :: rest) pos) (orV f g) := (pe_or h k).imp fun σ H Q q => by
  obtain ⟨F, env, d, env', R0, hf, k⟩ := q
  obtain ⟨⟨c, e1⟩, h1, hf⟩ := Option.bind_eq_some_iff.mp hf
  refine ⟨F, env, c, e1, R0, h1, fun v H1 R1 kd1 s1 a1 => ?_⟩
  cases c with
  | bool c =>
    cases a1
    refine ⟨c, rfl, ?_⟩
    cases c with
    | false => exact ⟨F, e1, d, env', R1, hf, fun v H2 R2 kd2 s2 a2 => k v H2 R2 (kd1.trans kd2) (s1.trans s2) a2⟩
    | true =>
      cases hf
      exact k _ H1 R1 kd1 s1 (.bl _)
  | none => cases hf
  | int _ => cases hf
  | str _ => cases hf
  | list _ => cases hf
  | tuple _ => cases hf
  | dict _ => cases hf
theorem d_not {f : FD} (h : PD X a f) : PD X (.UnaryOp .Not a pos) (notV f) := (pe_not h).imp fun σ H Q q => by
  obtain ⟨F, env, d, env', R0, hf, k⟩ := q
  obtain ⟨⟨c, e1⟩, h1, hf⟩ := Option.bind_eq_some_iff.mp hf
  refine ⟨F, env, c, e1, R0, h1, fun v H1 R1 kd1 s1 a1 => ?_⟩
  cases c with
  | bool c =>
    cases a1
    cases hf
    exact ⟨c, rfl, k _ H1 R1 kd1 s1 (.bl _)⟩
  | none => cases hf
  | int _ => cases hf
  | str _ => cases hf
  | list _ => cases hf
  | tuple _ => cases hf
  | dict _ => cases hf
/-! a if t else b -/
def ifD (t : FT) (f g : FD) : FD := fun e => (t e).bind fun p => if p.1 = true then f p.2 else g p.2
theorem d_if {c : Expr} {t : FT} {f g : FD} (hc : PB X c t) (ha : PD X a f) (hb : PD X b g) : PD X (.IfExp c a b pos) (ifD t f g) := (pe_ifExp hc ha hb).imp fun σ H Q q => by
  obtain ⟨F, env, d, env', R0, hf, k⟩ := q
  obtain ⟨⟨c, e1⟩, h1, hf⟩ := Option.bind_eq_some_iff.mp hf
  refine ⟨F, env, c, e1, R0, h1, fun H1 R1 kd1 s1 => ?_⟩
  cases c with
  | true => exact ⟨F, e1, d, env', R1, by simpa using hf, fun v H2 R2 kd2 s2 a2 => k v H2 R2 (kd1.trans kd2) (s1.trans s2) a2⟩
  | false => exact ⟨F, e1, d, env', R1, by simpa using hf, fun v H2 R2 kd2 s2 a2 => k v H2 R2 (kd1.trans kd2) (s1.trans s2) a2⟩
end
end DL

set_option Elab.async false
set_option linter.all false
set_option maxRecDepth 100000
namespace DL
open PySem L2
/-! ### dicts whose keys are nested tuples -/
section
variable {X : Cx} {pins : List (Addr × Obj)} {σ : St} {H : Hp} {s : Shared}
mutual
theorem nest_is (I : Inv X pins σ H s) : ∀ (d : Dt) (v : V) (u : Value) (k : NestedKey), At X.lay H v d → toKey d = some k → RelV v u → NestedIs s.heap k u
  | .none, _, _, _, h, e, r => by
    cases h
    cases r
    cases e
    exact .none
  | .bool b, _, _, _, h, e, r => by
    cases h
    cases r
    cases e
    exact .bool rfl
  | .int i, _, _, _, h, e, r => by
    cases h
    obtain ⟨t, rfl⟩ := r
    cases e
    exact .int i t
  | .str x, _, _, _, h, e, r => by
    cases h
    obtain ⟨t, rfl⟩ := r
    cases e
    exact .text x t
  | .tuple ds, _, _, k, h, e, r => by
    cases h with
    | tup hs ha =>
      cases r
      have e' : (toKeys ds).map NestedKey.tup = some k := e
      obtain ⟨ks, hk, rfl⟩ := Option.map_eq_some_iff.mp e'
      obtain ⟨its, rv, ⟨o, ho, hc, n, hd⟩, _⟩ := I.tuple hs
      exact .tup ho hc hd (by simpa using nest_all I ds _ its ks ha hk rv)
  | .list _, _, _, _, _, e, _ => by cases e
  | .dict _, _, _, _, _, e, _ => by cases e
theorem nest_all (I : Inv X pins σ H s) : ∀ (ds : List Dt) (vs : List V) (us : List Value) (ks : List NestedKey), Ats X.lay H vs ds → toKeys ds = some ks → Vals vs us → NestedAll s.heap ks us
  | [], _, _, _, h, e, r => by
    cases h
    cases r
    cases e
    exact .nil
  | d :: ds, _, _, ks, h, e, r => by
    cases h with
    | cons h1 h2 =>
      cases r with
      | cons r1 r2 =>
        unfold toKeys at e
        cases hk : toKey d with
        | none => rw [hk] at e; cases e
        | some k =>
          cases hks : toKeys ds with
          | none => rw [hk, hks] at e; cases e
          | some ks' =>
            rw [hk, hks] at e
            cases e
            exact .cons (nest_is I d _ _ k h1 hk r1) (nest_all I ds _ _ ks' h2 hks r2)
end
end
def valN (xs : List NEnt) (k : NestedKey) : Option V := (xs.find? fun x => decide (x.1 = k)).map (·.2.2)
def getN (ps : List (Dt × Dt)) (k : NestedKey) : Option Dt := (ps.find? fun p => decide (toKey p.1 = some k)).map (·.2)
theorem NPair.val {xs : List NEnt} {ys : List (NestedKey × Addr × Value)} (h : NPair xs ys) (k : NestedKey) : (valN xs k = none ∧ atKey ys k = none) ∨ ∃ v p, valN xs k = some v ∧ atKey ys k = some p ∧ RelV v p.2 := by
  induction h with
  | nil => exact .inl ⟨rfl, rfl⟩
  | @cons x y xs ys hxy t ih =>
    obtain ⟨h1, h2, h3⟩ := hxy
    unfold valN atKey at *
    by_cases hk : x.1 = k
    · refine .inr ⟨x.2.2, y.2, ?_, ?_, h3⟩
      · simp [List.find?, hk]
      · rw [h1] at hk; simp [List.find?, hk]
    · have hk' : ¬ y.1 = k := fun z => hk (h1.trans z)
      simp only [List.find?, hk, hk', decide_false]
      exact ih
theorem AtN.val {Y : Lay} {H : Hp} : ∀ {xs : List NEnt} {ps : List (Dt × Dt)}, AtN Y H xs ps → ∀ k : NestedKey, (valN xs k = none ∧ getN ps k = none) ∨ ∃ v d, valN xs k = some v ∧ getN ps k = some d ∧ At Y H v d
  | _, _, .nil, k => .inl ⟨rfl, rfl⟩
  | _, _, @AtN.cons _ _ k' a v kd d xs ps h1 h2 h3 h4, k => by
    have ih := AtN.val h4 k
    unfold valN getN at *
    by_cases hk : k' = k
    · refine .inr ⟨v, d, ?_, ?_, h3⟩
      · simp [List.find?, hk]
      · simp [List.find?, h2, hk]
    · simp only [List.find?, hk, h2, Option.some.injEq, decide_false]
      exact ih
theorem AtN.len {Y : Lay} {H : Hp} : ∀ {xs : List NEnt} {ps : List (Dt × Dt)}, AtN Y H xs ps → xs.length = ps.length
  | _, _, .nil => rfl
  | _, _, .cons _ _ _ h => by simp [AtN.len h]
section
variable {X : Cx} {pins : List (Addr × Obj)} {σ : St} {H : Hp} {s : Shared} {a : Addr} {xs : List NEnt} {ps : List (Dt × Dt)}
/-- a dict with such keys, or an empty one of any kind -/
def RdN (Y : Lay) (H : Hp) (a : Addr) (xs : List NEnt) : Prop := ∃ o, Rd H a (dnO Y a o xs)
/-- an empty dict is one of either kind -/
theorem dk_nil (I : Inv X pins σ H s) (e : Rd H a (.dK [])) : (a == sysModules) = false ∧ s.heap.DictOfH (nestedKind X.prog X.w) a [] := by
  obtain ⟨z, hd, vs, rel, o, es, ep, w1, w2, w3, w4, w5, w6⟩ := dk_rd I.hok e
  cases rel
  have he : es.toList = [] := by
    cases hl : es.toList with
    | nil => rfl
    | cons x xs => rw [hl] at w5; cases w5
  exact ⟨hd, o, es, ep, w1, w2, w3, by rw [he]; rfl, by simp, by simp⟩
/-- what the heap holds there -/
theorem dn_rd (I : Inv X pins σ H s) (e : RdN X.lay H a xs) (n : AtN X.lay H xs ps) : (a == sysModules) = false ∧ xs.length ≤ sizeLine ∧ (∀ x ∈ xs, x.1.depth ≤ 8) ∧ ∃ ys, NPair xs ys ∧ s.heap.DictOfH (nestedKind X.prog X.w) a ys := by
  obtain ⟨o, e⟩ := e
  obtain ⟨⟨h1, h2, h3, ys, h4, es, ep, h5, h6, h7, h8, h9⟩, _⟩ := (show ObjOk X.prog X.w H s.heap a (dnO X.lay a o xs) from rd_of I.hok e)
  refine ⟨h1, h2, h3, ys, h4, o, es, ep, h5, h6, h7, h8, ?_, h9⟩
  have all : ∀ {xs : List NEnt} {ps : List (Dt × Dt)} {ys : List (NestedKey × Addr × Value)}, AtN X.lay H xs ps → NPair xs ys → (∀ x ∈ xs, x.1.depth ≤ 8) → ∀ y ∈ ys, (nestedKind X.prog X.w).is s.heap y.1 y.2.1 := by
    intro xs ps ys hn hp
    induction hp generalizing ps with
    | nil => intro _ y hy; exact nomatch hy
    | @cons x y xs ys hxy t ih =>
      intro hd z hz
      cases hn with
      | cons q1 q2 q3 q4 =>
        rcases List.mem_cons.mp hz with rfl | hz
        · obtain ⟨w1, w2, _⟩ := hxy
          refine ⟨?_, by rw [← w1]; exact hd _ (by simp)⟩
          rw [← w1, ← w2]
          exact nest_is I _ _ _ _ q1 q2 rfl
        · exact ih q4 (fun x hx => hd x (by simp [hx])) z hz
  exact all n h4 h3
def KeyIs (Y : Lay) (H : Hp) (x : V) (k : NestedKey) : Prop := ∃ b kd, x = .ref b ∧ At Y H x kd ∧ toKey kd = some k ∧ k.depth ≤ 8
theorem KeyIs.is {x : V} {k : NestedKey} {u : Value} (h : KeyIs X.lay H x k) (I : Inv X pins σ H s) (r : RelV x u) : ∃ b, x = .ref b ∧ u = .ref b ∧ (nestedKind X.prog X.w).is s.heap k b := by
  obtain ⟨b, kd, rfl, h1, h2, h3⟩ := h
  cases r
  exact ⟨b, rfl, rfl, nest_is I kd _ _ k h1 h2 rfl, h3⟩
theorem room_n {A : Around} (hu : A.units + 64 < cLine) : (nestedKind X.prog X.w).room A.in1 := by
  show A.in1.units + 8 < cLine
  have : A.in1.units = A.units + 1 := rfl
  omega
def rInN (Y : Lay) (n : Bool) : R2 := fun x y H Q => ∃ a xs ps k, y = .ref a ∧ RdN Y H a xs ∧ AtN Y H xs ps ∧ KeyIs Y H x k ∧ Q (.bl (if n then !(valN xs k).isSome else (valN xs k).isSome)) H
theorem NPair.isS {xs : List NEnt} {ys : List (NestedKey × Addr × Value)} (h : NPair xs ys) (k : NestedKey) : (atKey ys k).isSome = (valN xs k).isSome := by
  rcases h.val k with ⟨h1, h2⟩ | ⟨v, p, h1, h2, _⟩ <;> rw [h1, h2] <;> rfl
theorem op_inN (hu : X.A.units + 64 < cLine) : OpR X (compareOp .In) (rInN X.lay false) := by
  intro pins s σ H x y v u Q I rx ry h
  obtain ⟨a, xs, ps, k, rfl, e, n, hk, q⟩ := h
  cases ry
  obtain ⟨b, rfl, rfl, ki⟩ := hk.is I rx
  obtain ⟨h1, h2, _, ys, h3, dd⟩ := dn_rd I e n
  refine wpAny_in_heap (room_n hu) ki h1 dd ?_
  rw [h3.isS k]
  exact ⟨.bl _, H, I.tok _, rfl, q⟩
theorem op_ninN (hu : X.A.units + 64 < cLine) : OpR X (compareOp .NotIn) (rInN X.lay true) := by
  intro pins s σ H x y v u Q I rx ry h
  obtain ⟨a, xs, ps, k, rfl, e, n, hk, q⟩ := h
  cases ry
  obtain ⟨b, rfl, rfl, ki⟩ := hk.is I rx
  obtain ⟨h1, h2, _, ys, h3, dd⟩ := dn_rd I e n
  refine PyProof.Rows.wpAny_notIn_heap (room_n hu) ki h1 dd ?_
  rw [h3.isS k]
  exact ⟨.bl _, H, I.tok _, rfl, q⟩
/-- d[k], there -/
theorem n_getItem {A : Around} {E : Value → Shared → Prop} {b : Addr} {k : NestedKey} {v : V} {Q : Value → Shared → Prop} (hu : A.units + 64 < cLine) (I : Inv X pins σ H s) (e : RdN X.lay H a xs) (n : AtN X.lay H xs ps) (ki : (nestedKind X.prog X.w).is s.heap k b) (hv : valN xs k = some v)
    (h : ∀ w' s', Inv X pins σ H s' → RelV v w' → Q w' s') : wpAny (model X.prog X.w) A (getItem (.ref a) (.ref b)) Q E s := by
  obtain ⟨h1, h2, _, ys, h3, dd⟩ := dn_rd I e n
  rcases h3.val k with ⟨z, _⟩ | ⟨v', p, z, hp, r⟩
  · rw [hv] at z; cases z
  · rw [hv] at z
    cases z
    exact wpAny_getItem_heap (room_n hu) ki dd hp (h _ _ (I.tok _) r)
def rIxN (Y : Lay) : R2 := fun x y H Q => ∃ a xs ps k v, x = .ref a ∧ RdN Y H a xs ∧ AtN Y H xs ps ∧ KeyIs Y H y k ∧ valN xs k = some v ∧ Q v H
theorem ix_N (hu : X.A.units + 64 < cLine) : IxR X (rIxN X.lay) := by
  intro value slice pins s σ H x y v u Q I rx ry h hs
  obtain ⟨a, xs, ps, k, w, rfl, e, n, hk, hv, q⟩ := h
  cases rx
  obtain ⟨b, rfl, rfl, ki⟩ := hk.is I ry
  obtain ⟨h1, h2, _, ys, h3, dd⟩ := dn_rd I e n
  exact PyProof.Rows.tail_any dd.typeIs PySem.F.slot_dict_getitem.lookup (n_getItem hu I e n ki hv fun w' s' I' r => ⟨w, H, I', r, q⟩) hs
/-- d[k] = v -/
def putN (xs : List NEnt) (k : NestedKey) (b : Addr) (v : V) : List NEnt := if (valN xs k).isSome = true then xs.map (fun x => if x.1 = k then (x.1, x.2.1, v) else x) else xs ++ [(k, b, v)]
theorem putN_len (xs : List NEnt) (k : NestedKey) (b : Addr) (v : V) : (putN xs k b v).length ≤ xs.length + 1 := by
  unfold putN; split <;> simp
theorem NPair.put {xs : List NEnt} {ys : List (NestedKey × Addr × Value)} (h : NPair xs ys) (k : NestedKey) (b : Addr) {v : V} {r : Value} (rv : RelV v r) : NPair (putN xs k b v) (storedH ys k b r) := by
  unfold putN storedH
  rw [← h.isS k]
  by_cases hk : (atKey ys k).isSome = true
  · rw [if_pos hk, if_pos hk]
    clear hk
    induction h with
    | nil => exact .nil
    | @cons x y xs ys hxy t ih =>
      refine .cons ?_ ih
      obtain ⟨h1, h2, h3⟩ := hxy
      unfold putAt
      rw [← h1]
      by_cases hx : x.1 = k
      · simp only [hx, if_true]
        exact ⟨trivial, h2, rv⟩
      · simp only [hx, if_false]
        exact ⟨h1, h2, h3⟩
  · rw [if_neg hk, if_neg hk]
    clear hk
    induction h with
    | nil => exact .cons ⟨rfl, rfl, rv⟩ .nil
    | cons hxy t ih => exact .cons hxy ih
theorem n_setItem {A : Around} {E : Value → Shared → Prop} {b : Addr} {k : NestedKey} {v : V} {r : Value} {Q : Unit → Shared → Prop} (hu : A.units + 64 < cLine) (I : Inv X pins σ H s) {o : Obj} (e : H a = some (dnO X.lay a o xs)) (n : AtN X.lay H xs ps) (ki : (nestedKind X.prog X.w).is s.heap k b) (hl : xs.length < sizeLine) (rv : RelV v r)
    (h : ∀ o' s', Inv X pins σ (upd H a (dnO X.lay a o' (putN xs k b v))) s' → Q () s') : wpAny (model X.prog X.w) A (setItem (.ref a) (.ref b) r) Q E s := by
  obtain ⟨h1, h2, hdep, ys, h3, dd⟩ := dn_rd I ⟨o, .inl e⟩ n
  have hz : ys.length ≤ sizeLine := by rw [← Paired.length h3]; exact h2
  refine wpAny_setItem_heap (hsz := hz) (room_n hu) ki dd fun h' dd' hs => ?_
  obtain ⟨q, es, ep, hq, w2, w3, w4, _, w5⟩ := dd'
  refine h q _ (d_write I (by rw [e]; exact True.intro) hs ⟨q, hq⟩ ⟨⟨h1, ?_, ?_, _, h3.put k b rv, es, ep, hq, w2, w3, w4, w5⟩, ⟨q, hq⟩, ?_⟩)
  · have := putN_len xs k b v; omega
  · intro x hx
    unfold putN at hx
    split at hx
    · rw [List.mem_map] at hx
      obtain ⟨y, hy, rfl⟩ := hx
      split
      · exact hdep y hy
      · exact hdep y hy
    · rw [List.mem_append, List.mem_singleton] at hx
      rcases hx with hx | rfl
      · exact hdep x hx
      · exact ki.2
  · rintro g1 g2 ⟨c1, c2, c3, ys', c4, es', ep', c5, c6⟩ hk
    exact ⟨c1, c2, c3, ys', c4, es', ep', hk _ c5, c6⟩
end
/-! on data -/
def isTupD : Dt → Bool
  | .tuple _ => true
  | _ => false
def okKey (d : Dt) : Bool := match toKey d with
  | some k => decide (k.depth ≤ 8)
  | none => false
def keysN (ps : List (Dt × Dt)) : Bool := ps.all fun p => isTupD p.1
def getNd (ps : List (Dt × Dt)) (d : Dt) : Option Dt := (toKey d).bind (getN ps)
section
variable {Y : Lay}
theorem See.dN {O : Addr → Prop} {H : Hp} {v : V} {ps : List (Dt × Dt)} (h : See Y O H v (.dict ps)) (hk : keysN ps = true) : ∃ a xs, v = .ref a ∧ RdN Y H a xs ∧ AtN Y (hide O H) xs ps := by
  have noK : ∀ {H : Hp} {kvs : List (Key × V)}, AtK Y H kvs ps → ps ≠ [] → False := fun {H kvs} h hn => by
    cases h with
    | nil => exact hn rfl
    | int _ _ => simp [keysN, isTupD] at hk
    | str _ _ => simp [keysN, isTupD] at hk
  cases h with
  | «at» h =>
    cases h with
    | scr _ _ => simp [keysN, isTupD] at hk
    | dicK h k hn => exact (noK k hn).elim
    | dicN h k => exact ⟨_, _, rfl, ⟨_, Same.rd (hide_le _ _) h⟩, k⟩
  | own h =>
    cases h with
    | dicK h k hn => exact (noK k hn).elim
    | dicN h k => exact ⟨_, _, rfl, ⟨_, Rd.of h⟩, k⟩
theorem See.key {O : Addr → Prop} {H : Hp} {v : V} {d : Dt} (h : See Y O H v d) (ht : isTupD d = true) (ho : okKey d = true) : ∃ k, toKey d = some k ∧ KeyIs Y H v k := by
  cases d with
  | tuple ds =>
    unfold okKey at ho
    cases hk : toKey (.tuple ds) with
    | none => rw [hk] at ho; cases ho
    | some k =>
      rw [hk] at ho
      have ha : At Y (hide O H) v (.tuple ds) := by
        cases h with
        | «at» h => exact h
        | own h => cases h
      obtain ⟨b, vs, rfl, _⟩ := h.tup
      exact ⟨k, rfl, b, _, rfl, ha.mono (hide_le _ _), hk, of_decide_eq_true ho⟩
  | _ => cases ht
def inND (n : Bool) (x y : Dt) : Option Dt := match y with
  | .dict ps => if keysN ps = true ∧ isTupD x = true ∧ okKey x = true then some (.bool (if n then !(getNd ps x).isSome else (getNd ps x).isSome)) else none
  | _ => none
def ixND (x y : Dt) : Option Dt := match x with
  | .dict ps => if keysN ps = true ∧ isTupD y = true ∧ okKey y = true then getNd ps y else none
  | _ => none
theorem AtN.isS {H : Hp} {xs : List NEnt} {ps : List (Dt × Dt)} (h : AtN Y H xs ps) (k : NestedKey) : (valN xs k).isSome = (getN ps k).isSome := by
  rcases h.val k with ⟨h1, h2⟩ | ⟨v, d, h1, h2, _⟩ <;> rw [h1, h2] <;> rfl
theorem sem_inN (n : Bool) : Sem2 Y (rInN Y n) (inND n) := by
  intro O H x y dx dy d Q hO hx hy hg k
  unfold inND at hg
  split at hg
  · split at hg
    · rename_i ps hz
      cases hg
      obtain ⟨a, xs, rfl, h1, h2⟩ := hy.dN hz.1
      obtain ⟨kk, h3, h4⟩ := hx.key hz.2.1 hz.2.2
      refine ⟨a, xs, _, kk, rfl, h1, h2.mono (hide_le _ _), h4, ?_⟩
      rw [h2.isS kk]
      have : getNd ps dx = getN ps kk := by unfold getNd; rw [h3]; rfl
      rw [this] at k
      exact k _ H (Same.refl _) (.bl _)
    · cases hg
  · cases hg
theorem sem_ixN : Sem2 Y (rIxN Y) ixND := by
  intro O H x y dx dy d Q hO hx hy hg k
  unfold ixND at hg
  split at hg
  · split at hg
    · rename_i ps hz
      obtain ⟨a, xs, rfl, h1, h2⟩ := hx.dN hz.1
      obtain ⟨kk, h3, h4⟩ := hy.key hz.2.1 hz.2.2
      have : getNd ps dy = getN ps kk := by unfold getNd; rw [h3]; rfl
      rw [this] at hg
      rcases h2.val kk with ⟨_, z⟩ | ⟨v, d', q1, q2, q3⟩
      · rw [z] at hg; cases hg
      · rw [q2] at hg
        cases hg
        exact ⟨a, xs, _, kk, v, rfl, h1, h2.mono (hide_le _ _), h4, q1, k v H (Same.refl _) q3⟩
    · cases hg
  · cases hg
end
end DL

set_option Elab.async false
set_option linter.all false
set_option maxRecDepth 100000
set_option autoImplicit true
/-! DL2: what the operators and the built-ins give on data. -/
namespace DL
open PySem L2

theorem OpR.or3 {X : Cx} {f : Value → Value → Sem Value} {r r' r'' : R2} (h : OpR X f r) (h' : OpR X f r') (h'' : OpR X f r'') : OpR X f (fun x y H Q => r x y H Q ∨ r' x y H Q ∨ r'' x y H Q) := OpR.or h (OpR.or h' h'')

section
variable {Y : Lay} {O : Addr → Prop} {H H' : Hp}
theorem Ats.rep {vs : List V} {ds : List Dt} (h : Ats Y H vs ds) : ∀ n : Nat, Ats Y H (List.replicate n vs).flatten (List.replicate n ds).flatten
  | 0 => by simpa using Ats.nil
  | n + 1 => by
    rw [List.replicate_succ, List.replicate_succ, List.flatten_cons, List.flatten_cons]
    exact h.append (Ats.rep h n)
/-- a new tracked object is data -/
theorem new_tup {O : Addr → Prop} {p : Addr} {vs : List V} {ds : List Dt} (hO : ∀ a, O a → ∃ o, H a = some o) (hp : H p = none) (h : Ats Y (hide O H) vs ds) : At Y (hide O (upd H p (.tup vs))) (.ref p) (.tuple ds) :=
  .tup (SqT.of (hide_some.mpr ⟨(fun z => let ⟨o, e⟩ := hO p z; absurd (hp.symm.trans e) (by simp)), upd_same⟩)) (h.mono (hide_mono (same_upd hp)))
theorem new_lst {O : Addr → Prop} {p : Addr} {vs : List V} {ds : List Dt} (hp : H p = none) (h : Ats Y (hide O H) vs ds) : OwnAt Y (hide (fun a => a = p ∨ O a) (upd H p (.lst vs))) (upd H p (.lst vs)) p (.list ds) :=
  .lst upd_same (h.mono (hide_same fun a o n e => ⟨fun z => z.elim (fun w => by rw [w, hp] at e; cases e) n, same_upd hp a o e⟩))
end

/-! ### plain data -/
mutual
theorem At.dp {Y : Lay} {H : Hp} : ∀ {v : V} {d : Dt}, At Y H v d → d.plain = true → Dp Y.K H v d
  | _, _, .non, _ => .non
  | _, _, .bl b, _ => .bl b
  | _, _, .int i, _ => .int i
  | _, _, .str x, _ => .str x
  | _, _, .lst h k, p => .lst (SqL.of h) (Ats.dp k (by simpa [PyData.plain] using p))
  | _, _, .tup h k, p => .tup h (Ats.dp k (by simpa [PyData.plain] using p))
  | _, _, .scr h k, p => by simp [PyData.plain] at p
  | _, _, .dicK h k _, p => by simp [PyData.plain] at p
  | _, _, .dicN h k, p => by simp [PyData.plain] at p
theorem Ats.dp {Y : Lay} {H : Hp} : ∀ {vs : List V} {ds : List Dt}, Ats Y H vs ds → PyData.plainAll ds = true → DpAll Y.K H vs ds
  | _, _, .nil, _ => .nil
  | _, _, .cons h k, p => by
    simp only [PyData.plainAll, Bool.and_eq_true] at p
    exact .cons (At.dp h p.1) (Ats.dp k p.2)
end
def okD (d : Dt) : Bool := d.plain && decide (d.depth ≤ 60)
theorem okP {d : Dt} (h : okD d = true) : d.plain = true := (Bool.and_eq_true_iff.mp h).1
theorem okH {d : Dt} (h : okD d = true) : d.depth ≤ 60 := of_decide_eq_true (Bool.and_eq_true_iff.mp h).2
def rEqP (K : PySem.W.Frag) (n : Bool) : R2 := fun x y H Q => ∃ d e, Dp K H x d ∧ Dp K H y e ∧ okD d = true ∧ okD e = true ∧ Q (.bl (if n then !PyData.eqv d e else PyData.eqv d e)) H
section
variable {X : Cx}
theorem op_eqP (hu : X.A.units + 64 < cLine) : OpR X (compareOp .Eq) (rEqP X.K false) := by
  intro pins s σ H x y v u Q I rx ry h
  obtain ⟨d, e, hd, he, sd, se, q⟩ := h
  obtain ⟨as, r1⟩ := Dp.reads I d x v hd rx
  obtain ⟨bs, r2⟩ := Dp.reads I e y u he ry
  have := okH sd
  exact SeqAt.eq_plain r1 r2 (okP sd) (okP se) (by omega) ⟨.bl _, H, I, rfl, q⟩
theorem op_neP (hu : X.A.units + 64 < cLine) : OpR X (compareOp .NotEq) (rEqP X.K true) := by
  intro pins s σ H x y v u Q I rx ry h
  obtain ⟨d, e, hd, he, sd, se, q⟩ := h
  obtain ⟨as, r1⟩ := Dp.reads I d x v hd rx
  obtain ⟨bs, r2⟩ := Dp.reads I e y u he ry
  have := okH sd
  exact SeqAt.ne_plain r1 r2 (okP sd) (okP se) (by omega) ⟨.bl _, H, I, rfl, q⟩
end
def eqG (x y : Dt) : Option Dt := if okD x = true ∧ okD y = true then some (.bool (PyData.eqv x y)) else none
def neG (x y : Dt) : Option Dt := if okD x = true ∧ okD y = true then some (.bool (!PyData.eqv x y)) else none
theorem sem_eq {Y : Lay} : Sem2 Y (rEqP Y.K false) eqG := by
  intro O H x y dx dy d Q hO hx hy hg k
  unfold eqG at hg
  split at hg
  · rename_i h
    cases hg
    exact ⟨dx, dy, hx.full.dp (okP h.1), hy.full.dp (okP h.2), h.1, h.2, k _ H (Same.refl _) (.bl _)⟩
  · cases hg
theorem sem_ne {Y : Lay} : Sem2 Y (rEqP Y.K true) neG := by
  intro O H x y dx dy d Q hO hx hy hg k
  unfold neG at hg
  split at hg
  · rename_i h
    cases hg
    exact ⟨dx, dy, hx.full.dp (okP h.1), hy.full.dp (okP h.2), h.1, h.2, k _ H (Same.refl _) (.bl _)⟩
  · cases hg

/-! ### in: a list, a tuple of plain data -/
def rInP (K : PySem.W.Frag) (n : Bool) : R2 := fun x y H Q => ∃ d ds, Dp K H x d ∧ (Dp K H y (.list ds) ∨ Dp K H y (.tuple ds)) ∧ okD d = true ∧ okD (.list ds) = true ∧
  Q (.bl (if n then !(ds.any fun z => PyData.eqv z d) else ds.any fun z => PyData.eqv z d)) H
section
variable {X : Cx}
theorem okAll {ds : List Dt} (h : okD (.list ds) = true) : PyData.plainAll ds = true ∧ PyData.depthAll ds ≤ 60 := by
  have h1 := okP h
  have h2 := okH h
  simp only [PyData.plain] at h1
  refine ⟨h1, ?_⟩
  simp only [PyData.depth] at h2
  omega
theorem op_inP (hu : X.A.units + 64 < cLine) : OpR X (compareOp .In) (rInP X.K false) := by
  intro pins s σ H x y v u Q I rx ry h
  obtain ⟨d, ds, hd, he, sd, se, q⟩ := h
  obtain ⟨as, r1⟩ := Dp.reads I d x v hd rx
  have := okH sd
  rcases he with he | he
  · obtain ⟨bs, r2⟩ := Dp.reads I _ y u he ry
    exact SeqAt.in_list_data r2 r1 (okAll se).1 (okP sd) (by omega) ⟨.bl _, H, I, rfl, q⟩
  · obtain ⟨bs, r2⟩ := Dp.reads I _ y u he ry
    exact SeqAt.in_tuple_data r2 r1 (okAll se).1 (okP sd) (by omega) ⟨.bl _, H, I, rfl, q⟩
theorem op_ninP (hu : X.A.units + 64 < cLine) : OpR X (compareOp .NotIn) (rInP X.K true) := by
  intro pins s σ H x y v u Q I rx ry h
  obtain ⟨d, ds, hd, he, sd, se, q⟩ := h
  obtain ⟨as, r1⟩ := Dp.reads I d x v hd rx
  have := okH sd
  rcases he with he | he
  · obtain ⟨bs, r2⟩ := Dp.reads I _ y u he ry
    exact SeqAt.notIn_list_data r2 r1 (okAll se).1 (okP sd) (by omega) ⟨.bl _, H, I, rfl, q⟩
  · obtain ⟨bs, r2⟩ := Dp.reads I _ y u he ry
    exact SeqAt.notIn_tuple_data r2 r1 (okAll se).1 (okP sd) (by omega) ⟨.bl _, H, I, rfl, q⟩
end
def inL (d : Dt) (ds : List Dt) : Option Bool := if okD d = true ∧ okD (.list ds) = true then some (ds.any fun z => PyData.eqv z d) else none
def inG (x y : Dt) : Option Dt := match y with
  | .list ds => (inL x ds).bind fun b => some (.bool b)
  | .tuple ds => (inL x ds).bind fun b => some (.bool b)
  | .dict ps => inND false x (.dict ps)
  | _ => none
def ninG (x y : Dt) : Option Dt := match y with
  | .list ds => (inL x ds).bind fun b => some (.bool (!b))
  | .tuple ds => (inL x ds).bind fun b => some (.bool (!b))
  | .dict ps => inND true x (.dict ps)
  | _ => none
theorem inL_some {d : Dt} {ds : List Dt} {b : Bool} (h : inL d ds = some b) : okD d = true ∧ okD (.list ds) = true ∧ b = ds.any fun z => PyData.eqv z d := by
  unfold inL at h
  split at h
  · rename_i z
    cases h
    exact ⟨z.1, z.2, rfl⟩
  · cases h
theorem okD_lt {ds : List Dt} : okD (.list ds) = okD (.tuple ds) := by
  unfold okD
  simp only [PyData.plain, PyData.depth]
  rfl
theorem sem_in {Y : Lay} : Sem2 Y (fun x y H Q => rInP Y.K false x y H Q ∨ rInN Y false x y H Q) inG := by
  intro O H x y dx dy d Q hO hx hy hg k
  cases dy with
  | list ds =>
    obtain ⟨b, h, hg⟩ := Option.bind_eq_some_iff.mp hg
    cases hg
    obtain ⟨h1, h2, rfl⟩ := inL_some h
    exact .inl ⟨dx, ds, hx.full.dp (okP h1), .inl (hy.full.dp (okP h2)), h1, h2, k _ H (Same.refl _) (.bl _)⟩
  | tuple ds =>
    obtain ⟨b, h, hg⟩ := Option.bind_eq_some_iff.mp hg
    cases hg
    obtain ⟨h1, h2, rfl⟩ := inL_some h
    exact .inl ⟨dx, ds, hx.full.dp (okP h1), .inr (hy.full.dp (okP (okD_lt ▸ h2))), h1, h2, k _ H (Same.refl _) (.bl _)⟩
  | none => cases hg
  | bool _ => cases hg
  | int _ => cases hg
  | str _ => cases hg
  | dict ps => exact .inr (sem_inN false O H x y dx (.dict ps) d Q hO hx hy hg k)
theorem sem_nin {Y : Lay} : Sem2 Y (fun x y H Q => rInP Y.K true x y H Q ∨ rInN Y true x y H Q) ninG := by
  intro O H x y dx dy d Q hO hx hy hg k
  cases dy with
  | list ds =>
    obtain ⟨b, h, hg⟩ := Option.bind_eq_some_iff.mp hg
    cases hg
    obtain ⟨h1, h2, rfl⟩ := inL_some h
    exact .inl ⟨dx, ds, hx.full.dp (okP h1), .inl (hy.full.dp (okP h2)), h1, h2, k _ H (Same.refl _) (.bl _)⟩
  | tuple ds =>
    obtain ⟨b, h, hg⟩ := Option.bind_eq_some_iff.mp hg
    cases hg
    obtain ⟨h1, h2, rfl⟩ := inL_some h
    exact .inl ⟨dx, ds, hx.full.dp (okP h1), .inr (hy.full.dp (okP (okD_lt ▸ h2))), h1, h2, k _ H (Same.refl _) (.bl _)⟩
  | none => cases hg
  | bool _ => cases hg
  | int _ => cases hg
  | str _ => cases hg
  | dict ps => exact .inr (sem_inN true O H x y dx (.dict ps) d Q hO hx hy hg k)

/-! ### arithmetic -/
def addG : Dt → Dt → Option Dt
  | .int i, .int j => some (.int (i + j))
  | .list a, .list b => if a.length + b.length ≤ sizeLine then some (.list (a ++ b)) else none
  | .tuple a, .tuple b => if a.length + b.length ≤ sizeLine then some (.tuple (a ++ b)) else none
  | .str a, .str b => if a.length + b.length ≤ sizeLine then some (.str (a ++ b)) else none
  | _, _ => none
def catG : Dt → Dt → Option Dt
  | .list a, .list b => if a.length + b.length ≤ sizeLine then some (.list (a ++ b)) else none
  | _, _ => none
def subG : Dt → Dt → Option Dt
  | .int i, .int j => some (.int (i - j))
  | _, _ => none
def mulG : Dt → Dt → Option Dt
  | .int i, .int j => if (-(2 ^ 64) < i ∧ i < 2 ^ 64) ∨ (-(2 ^ 64) < j ∧ j < 2 ^ 64) then some (.int (i * j)) else none
  | .list a, .int k => if -(2 ^ 63) ≤ k ∧ k < 2 ^ 63 ∧ a.length * k.toNat ≤ sizeLine then some (.list (List.replicate k.toNat a).flatten) else none
  | .tuple a, .int k => if a ≠ [] ∧ 2 ≤ k ∧ k ≤ 1000 ∧ a.length ≤ 1000 then some (.tuple (List.replicate k.toNat a).flatten) else none
  | _, _ => none
def repG : Dt → Dt → Option Dt
  | .list a, .int k => if -(2 ^ 63) ≤ k ∧ k < 2 ^ 63 ∧ a.length * k.toNat ≤ sizeLine then some (.list (List.replicate k.toNat a).flatten) else none
  | _, _ => none
def fdivG : Dt → Dt → Option Dt
  | .int i, .int j => if 0 < j ∧ j < 1073741824 then some (.int (i / j)) else none
  | _, _ => none
def modG : Dt → Dt → Option Dt
  | .int i, .int j => if 0 < j then some (.int (i % j)) else none
  | _, _ => none
def powG : Dt → Dt → Option Dt
  | .int i, .int j => if 0 ≤ j ∧ j ≤ 1000000 ∧ i.natAbs < 2 ^ 64 then some (.int (i ^ j.toNat)) else none
  | _, _ => none
def cmpG (p : Int → Int → Bool) : Dt → Dt → Option Dt
  | .int i, .int j => some (.bool (p i j))
  | _, _ => none
def rAddS : R2 := fun x y H Q => ∃ i j, x = .str i ∧ y = .str j ∧ i.length + j.length ≤ sizeLine ∧ Q (.str (i ++ j)) H
def rPlus (K : PySem.W.Frag) : R2 := fun x y H Q => rI0 (fun i j => .int (i + j)) x y H Q ∨ rCat x y H Q ∨ rCatA K x y H Q ∨ rAddS x y H Q
def rTimes (K : PySem.W.Frag) : R2 := fun x y H Q => rI CMul (fun i j => .int (i * j)) x y H Q ∨ rRep x y H Q ∨ rRepT K x y H Q
section
variable {X : Cx} {Y : Lay}
theorem op_plus : OpR X (binaryOp .Add) (rPlus X.K) := OpR.or op_add (OpR.or op_cat (OpR.or op_catA op_add_str))
theorem op_times : OpR X (binaryOp .Mult) (rTimes X.K) := OpR.or op_mul (OpR.or op_rep op_repT)
theorem sem_cat : SemF2 Y rCat catG := by
  intro O H x y dx dy d Q hO hx hy hg k
  unfold catG at hg
  split at hg
  · split at hg
    · cases hg
      obtain ⟨a, vs, rfl, ha, ka⟩ := hx.lst
      obtain ⟨b, us, rfl, hb, kb⟩ := hy.lst
      exact ⟨a, b, vs, us, rfl, rfl, ha, hb, by rw [ka.length, kb.length]; assumption, fun p hp => k p _ _ hp upd_same (same_upd hp) (new_lst hp (ka.append kb))⟩
    · cases hg
  · cases hg
theorem sem_rep : SemF2 Y rRep repG := by
  intro O H x y dx dy d Q hO hx hy hg k
  unfold repG at hg
  split at hg
  · split at hg
    · rename_i z
      cases hg
      obtain ⟨a, vs, rfl, ha, ka⟩ := hx.lst
      have := hy.int
      subst this
      exact ⟨a, _, vs, rfl, rfl, ha, z.1, z.2.1, by rw [ka.length]; exact z.2.2, fun p hp => k p _ _ hp upd_same (same_upd hp) (new_lst hp (ka.rep _))⟩
    · cases hg
  · cases hg
theorem sem_plus : Sem2 Y (rPlus Y.K) addG := by
  intro O H x y dx dy d Q hO hx hy hg k
  unfold addG at hg
  split at hg
  · cases hg
    exact .inl ⟨_, _, hx.int, hy.int, k _ H (Same.refl _) (.int _)⟩
  · exact .inr (.inl (sem_cat.sem O H x y _ _ d Q hO hx hy hg k))
  · split at hg
    · rename_i z
      cases hg
      obtain ⟨a, vs, rfl, ha, ka⟩ := hx.tup
      obtain ⟨b, us, rfl, hb, kb⟩ := hy.tup
      refine .inr (.inr (.inl ⟨a, b, vs, us, rfl, rfl, ha, hb, by rw [ka.length, kb.length]; exact z, fun e => ?_, fun e1 e2 => ?_, fun e1 e2 p hp => k _ _ (same_upd hp) (new_tup hO hp (ka.append kb))⟩))
      · subst e
        cases ka
        cases hy with
        | «at» h => exact k _ H (Same.refl _) h
        | own h => cases h
      · subst e2
        cases kb
        cases hx with
        | «at» h => exact k _ H (Same.refl _) (by simpa using h)
        | own h => cases h
    · cases hg
  · split at hg
    · cases hg
      exact .inr (.inr (.inr ⟨_, _, hx.str, hy.str, by assumption, k _ H (Same.refl _) (.str _)⟩))
    · cases hg
  · cases hg
theorem sem_times : Sem2 Y (rTimes Y.K) mulG := by
  intro O H x y dx dy d Q hO hx hy hg k
  unfold mulG at hg
  split at hg
  · split at hg
    · rename_i z
      cases hg
      exact .inl ⟨_, _, hx.int, hy.int, z, k _ H (Same.refl _) (.int _)⟩
    · cases hg
  · exact .inr (.inl (sem_rep.sem O H x y _ _ d Q hO hx hy hg k))
  · split at hg
    · rename_i z
      cases hg
      obtain ⟨a, vs, rfl, ha, ka⟩ := hx.tup
      have := hy.int
      subst this
      have hl := ka.length
      refine .inr (.inr ⟨a, _, vs, rfl, rfl, ha, fun e => z.1 ?_, z.2.1, z.2.2.1, by rw [hl]; exact z.2.2.2, fun p hp => k _ _ (same_upd hp) (new_tup hO hp (ka.rep _))⟩)
      subst e
      exact List.eq_nil_of_length_eq_zero hl.symm
    · cases hg
  · cases hg
/-- two ints -/
theorem sem_I0 {g : Int → Int → V} {f : Int → Int → Dt} {G : Dt → Dt → Option Dt} (h : ∀ H i j, At Y H (g i j) (f i j)) (hG : ∀ x y d, G x y = some d → ∃ i j, x = .int i ∧ y = .int j ∧ d = f i j) : Sem2 Y (rI0 g) G := by
  intro O H x y dx dy d Q hO hx hy hg k
  obtain ⟨i, j, rfl, rfl, rfl⟩ := hG _ _ _ hg
  exact ⟨i, j, hx.int, hy.int, k _ H (Same.refl _) (h _ _ _)⟩
theorem sem_I {C : Int → Int → Prop} {g : Int → Int → V} {f : Int → Int → Dt} {G : Dt → Dt → Option Dt} (h : ∀ H i j, At Y H (g i j) (f i j)) (hG : ∀ x y d, G x y = some d → ∃ i j, x = .int i ∧ y = .int j ∧ C i j ∧ d = f i j) : Sem2 Y (rI C g) G := by
  intro O H x y dx dy d Q hO hx hy hg k
  obtain ⟨i, j, rfl, rfl, c, rfl⟩ := hG _ _ _ hg
  exact ⟨i, j, hx.int, hy.int, c, k _ H (Same.refl _) (h _ _ _)⟩
theorem sem_sub : Sem2 Y (rI0 fun i j => .int (i - j)) subG := sem_I0 (f := fun i j => .int (i - j)) (fun _ _ _ => .int _) fun x y d h => by
  unfold subG at h
  split at h
  · cases h; exact ⟨_, _, rfl, rfl, rfl⟩
  · cases h
theorem sem_cmp {p : Int → Int → Bool} : Sem2 Y (rI0 fun i j => .bl (p i j)) (cmpG p) := sem_I0 (f := fun i j => .bool (p i j)) (fun _ _ _ => .bl _) fun x y d h => by
  unfold cmpG at h
  split at h
  · cases h; exact ⟨_, _, rfl, rfl, rfl⟩
  · cases h
theorem sem_fdiv : Sem2 Y (rI CDiv fun i j => .int (i / j)) fdivG := sem_I (f := fun i j => .int (i / j)) (fun _ _ _ => .int _) fun x y d h => by
  unfold fdivG at h
  split at h
  · split at h
    · cases h; exact ⟨_, _, rfl, rfl, by assumption, rfl⟩
    · cases h
  · cases h
theorem sem_mod : Sem2 Y (rI (fun _ j => 0 < j) fun i j => .int (i % j)) modG := sem_I (f := fun i j => .int (i % j)) (fun _ _ _ => .int _) fun x y d h => by
  unfold modG at h
  split at h
  · split at h
    · cases h; exact ⟨_, _, rfl, rfl, by assumption, rfl⟩
    · cases h
  · cases h
theorem sem_pow : Sem2 Y (rI CPow fun i j => .int (i ^ j.toNat)) powG := sem_I (f := fun i j => .int (i ^ j.toNat)) (fun _ _ _ => .int _) fun x y d h => by
  unfold powG at h
  split at h
  · split at h
    · cases h; exact ⟨_, _, rfl, rfl, by assumption, rfl⟩
    · cases h
  · cases h
end

/-! ### in short -/
section
variable {X : Cx} {a b c : Expr} {fa fb fc : FV} {pos : Pos}
theorem d_add (ha : PV X a fa) (hb : PV X b fb) : PD X (.BinOp a .Add b pos) (binD addG fa fb) := d_op op_plus sem_plus ha hb
theorem f_cat (ha : PV X a fa) (hb : PV X b fb) : PF X (.BinOp a .Add b pos) (binD catG fa fb) := f_op op_cat sem_cat ha hb
theorem d_sub (ha : PV X a fa) (hb : PV X b fb) : PD X (.BinOp a .Sub b pos) (binD subG fa fb) := d_op op_sub sem_sub ha hb
theorem d_mul (ha : PV X a fa) (hb : PV X b fb) : PD X (.BinOp a .Mult b pos) (binD mulG fa fb) := d_op op_times sem_times ha hb
theorem f_rep (ha : PV X a fa) (hb : PV X b fb) : PF X (.BinOp a .Mult b pos) (binD repG fa fb) := f_op op_rep sem_rep ha hb
theorem d_fdiv (ha : PV X a fa) (hb : PV X b fb) : PD X (.BinOp a .FloorDiv b pos) (binD fdivG fa fb) := d_op op_fdiv sem_fdiv ha hb
theorem d_mod (ha : PV X a fa) (hb : PV X b fb) : PD X (.BinOp a .Mod b pos) (binD modG fa fb) := d_op op_mod sem_mod ha hb
theorem d_pow (ha : PV X a fa) (hb : PV X b fb) : PD X (.BinOp a .Pow b pos) (binD powG fa fb) := d_op op_pow sem_pow ha hb
abbrev ltG := cmpG fun i j => decide (i < j)
abbrev leG := cmpG fun i j => decide (i ≤ j)
abbrev gtG := cmpG fun i j => decide (j < i)
abbrev geG := cmpG fun i j => decide (j ≤ i)
theorem d_lt (ha : PV X a fa) (hb : PV X b fb) : PD X (.Compare a [.Lt] [b] pos) (binD ltG fa fb) := d_cmp op_lt sem_cmp ha hb (nomark _)
theorem d_le (ha : PV X a fa) (hb : PV X b fb) : PD X (.Compare a [.LtE] [b] pos) (binD leG fa fb) := d_cmp op_le sem_cmp ha hb (nomark _)
theorem d_gt (ha : PV X a fa) (hb : PV X b fb) : PD X (.Compare a [.Gt] [b] pos) (binD gtG fa fb) := d_cmp op_gt sem_cmp ha hb (nomark _)
theorem d_ge (ha : PV X a fa) (hb : PV X b fb) : PD X (.Compare a [.GtE] [b] pos) (binD geG fa fb) := d_cmp op_ge sem_cmp ha hb (nomark _)
theorem d_eq (hu : X.A.units + 64 < cLine) (ha : PV X a fa) (hb : PV X b fb) : PD X (.Compare a [.Eq] [b] pos) (binD eqG fa fb) := d_cmp (op_eqP hu) sem_eq ha hb (nomark _)
theorem d_ne (hu : X.A.units + 64 < cLine) (ha : PV X a fa) (hb : PV X b fb) : PD X (.Compare a [.NotEq] [b] pos) (binD neG fa fb) := d_cmp (op_neP hu) sem_ne ha hb (nomark _)
theorem d_in (hu : X.A.units + 64 < cLine) (ha : PV X a fa) (hb : PV X b fb) (hm : behindInMarks .In b = false := by rfl) : PD X (.Compare a [.In] [b] pos) (binD inG fa fb) := d_cmp ((op_inP hu).or (op_inN hu)) sem_in ha hb hm
theorem d_nin (hu : X.A.units + 64 < cLine) (ha : PV X a fa) (hb : PV X b fb) (hm : behindInMarks .NotIn b = false := by rfl) : PD X (.Compare a [.NotIn] [b] pos) (binD ninG fa fb) := d_cmp ((op_ninP hu).or (op_ninN hu)) sem_nin ha hb hm
theorem t_lt (ha : PV X a fa) (hb : PV X b fb) : PB X (.Compare a [.Lt] [b] pos) (vT (binD ltG fa fb)) := t_cmp op_lt sem_cmp ha hb (nomark _)
theorem t_le (ha : PV X a fa) (hb : PV X b fb) : PB X (.Compare a [.LtE] [b] pos) (vT (binD leG fa fb)) := t_cmp op_le sem_cmp ha hb (nomark _)
theorem t_gt (ha : PV X a fa) (hb : PV X b fb) : PB X (.Compare a [.Gt] [b] pos) (vT (binD gtG fa fb)) := t_cmp op_gt sem_cmp ha hb (nomark _)
theorem t_ge (ha : PV X a fa) (hb : PV X b fb) : PB X (.Compare a [.GtE] [b] pos) (vT (binD geG fa fb)) := t_cmp op_ge sem_cmp ha hb (nomark _)
theorem t_eq (hu : X.A.units + 64 < cLine) (ha : PV X a fa) (hb : PV X b fb) : PB X (.Compare a [.Eq] [b] pos) (vT (binD eqG fa fb)) := t_cmp (op_eqP hu) sem_eq ha hb (nomark _)
theorem t_ne (hu : X.A.units + 64 < cLine) (ha : PV X a fa) (hb : PV X b fb) : PB X (.Compare a [.NotEq] [b] pos) (vT (binD neG fa fb)) := t_cmp (op_neP hu) sem_ne ha hb (nomark _)
theorem t_in (hu : X.A.units + 64 < cLine) (ha : PV X a fa) (hb : PV X b fb) (hm : behindInMarks .In b = false := by rfl) : PB X (.Compare a [.In] [b] pos) (vT (binD inG fa fb)) := t_cmp ((op_inP hu).or (op_inN hu)) sem_in ha hb hm
theorem t_nin (hu : X.A.units + 64 < cLine) (ha : PV X a fa) (hb : PV X b fb) (hm : behindInMarks .NotIn b = false := by rfl) : PB X (.Compare a [.NotIn] [b] pos) (vT (binD ninG fa fb)) := t_cmp ((op_ninP hu).or (op_ninN hu)) sem_nin ha hb hm
/-- low <= value <= high -/
def chD (g g' : Dt → Dt → Option Dt) (fa fb fc : FV) : FD := fun e => (fa e).bind fun p => (fb p.2).bind fun q => (toD q.2 p.1).bind fun x => (toD q.2 q.1).bind fun y => (g x y).bind fun d => match d with
  | .bool true => (fc q.2).bind fun r => (toD r.2 q.1).bind fun y' => (toD r.2 r.1).bind fun z => (g' y' z).bind fun d' => some (d', r.2)
  | .bool false => some (.bool false, q.2)
  | _ => none
theorem chain_use {Y : Lay} {r r' : R2} {g g' : Dt → Dt → Option Dt} (hg : Sem2 Y r g) (hg' : Sem2 Y r' g') : ∀ σ H Q, tD Y (chD g g' fa fb fc) σ H Q → tChain r r' (tV Y fa) (tV Y fb) (tV Y fc) σ H Q := fun σ H Q q => by
  obtain ⟨F, env, d, env', R0, hf, k⟩ := q
  obtain ⟨⟨r1, e1⟩, h1, hf⟩ := Option.bind_eq_some_iff.mp hf
  obtain ⟨⟨r2, e2⟩, h2, hf⟩ := Option.bind_eq_some_iff.mp hf
  obtain ⟨x, h3, hf⟩ := Option.bind_eq_some_iff.mp hf
  obtain ⟨y, h4, hf⟩ := Option.bind_eq_some_iff.mp hf
  obtain ⟨z, h5, hf⟩ := Option.bind_eq_some_iff.mp hf
  refine ⟨F, env, r1, e1, R0, h1, fun v1 H1 R1 kd1 s1 a1 => ⟨F, e1, r2, _, R1, h2, fun v2 H2 R2 kd2 s2 a2 => ?_⟩⟩
  refine hg _ H2 v1 v2 x y z _ (fun a h => R2.ow_there h) ((a1.step kd2 s2).see' R2 h3) (a2.see' R2 h4) h5 fun v H' sm at' => ?_
  cases z with
  | bool b =>
    cases at'
    refine ⟨b, rfl, ?_⟩
    have R3 := R2.same sm
    cases b with
    | false =>
      cases hf
      exact k _ H' R3 (kd1.trans kd2) ((s1.trans s2).trans (Stp.of sm)) (.bl _)
    | true =>
      obtain ⟨⟨r3, e3⟩, h6, hf⟩ := Option.bind_eq_some_iff.mp hf
      obtain ⟨y', h7, hf⟩ := Option.bind_eq_some_iff.mp hf
      obtain ⟨z', h8, hf⟩ := Option.bind_eq_some_iff.mp hf
      obtain ⟨d', h9, hf⟩ := Option.bind_eq_some_iff.mp hf
      cases hf
      refine ⟨F, e2, r3, _, R3, h6, fun v3 H3 R4 kd3 s3 a3 => ?_⟩
      exact hg' _ H3 v2 v3 y' z' d Q (fun a h => R4.ow_there h) (((a2.step (Kd.refl _) (Stp.of sm)).step kd3 s3).see' R4 h7) (a3.see' R4 h8) h9 fun v H'' sm2 at2 =>
        k v H'' (R4.same sm2) ((kd1.trans kd2).trans kd3) ((((s1.trans s2).trans (Stp.of sm)).trans s3).trans (Stp.of sm2)) at2
  | none => cases hf
  | int _ => cases hf
  | str _ => cases hf
  | list _ => cases hf
  | tuple _ => cases hf
  | dict _ => cases hf
theorem d_chain {op op' : CmpOp} {r r' : R2} {g g' : Dt → Dt → Option Dt} (ho : OpR X (compareOp op) r) (ho' : OpR X (compareOp op') r') (hg : Sem2 X.lay r g) (hg' : Sem2 X.lay r' g') (ha : PV X a fa) (hb : PV X b fb) (hc : PV X c fc)
    (hm : lastMarks [op, op'] [b, c] = false := by with_unfolding_all rfl) : PD X (.Compare a [op, op'] [b, c] pos) (chD g g' fa fb fc) := (pe_chain ho ho' ha hb hc hm).imp (chain_use hg hg')
theorem t_chain {op op' : CmpOp} {r r' : R2} {g g' : Dt → Dt → Option Dt} (ho : OpR X (compareOp op) r) (ho' : OpR X (compareOp op') r') (hg : Sem2 X.lay r g) (hg' : Sem2 X.lay r' g') (ha : PV X a fa) (hb : PV X b fb) (hc : PV X c fc)
    (hm : lastMarks [op, op'] [b, c] = false := by with_unfolding_all rfl) : PB X (.Compare a [op, op'] [b, c] pos) (vT (chD g g' fa fb fc)) := (pt_chain ho ho' ha hb hc hm).imp fun σ H Q q => by
  obtain ⟨F, env, b, env', R0, hf, k⟩ := q
  refine chain_use hg hg' σ H _ ⟨F, env, _, env', R0, vT_some hf, fun v H' R1 kd st a => ?_⟩
  cases a
  exact ⟨b, rfl, k H' R1 kd st⟩
end
end DL

set_option Elab.async false
set_option linter.all false
set_option maxRecDepth 100000
set_option autoImplicit true
/-! DL3: items, slices, built-ins. -/
namespace DL
open PySem L2

/-! ### items -/
def ixG (x y : Dt) : Option Dt := match y with
  | .int i => match x with
    | .list ds => atI ds i
    | .tuple ds => atI ds i
    | .dict [(.none, .list ds)] => atI ds i
    | .str z => if z.length ≤ sizeLine then (atI z.cps.toList i).bind fun c => some (.str ⟨#[c]⟩) else none
    | _ => none
  | .tuple ks => ixND x (.tuple ks)
  | _ => none
theorem Ats.atI {Y : Lay} {H : Hp} {vs : List V} {ds : List Dt} {i : Int} {d : Dt} (h : Ats Y H vs ds) (e : L2.atI ds i = some d) : ∃ v, L2.atI vs i = some v ∧ At Y H v d := by
  unfold L2.atI at e ⊢
  obtain ⟨j, h1, h2⟩ := Option.bind_eq_some_iff.mp e
  obtain ⟨v, h3, h4⟩ := h.get h2
  exact ⟨v, by rw [h.length, h1]; exact h3, h4⟩
section
variable {Y : Lay} {X : Cx}
theorem sem_ix : Sem2 Y (fun x y H Q => rIx Y.K x y H Q ∨ rIxN Y x y H Q) ixG := by
  intro O H x y dx dy d Q hO hx hy hg k
  unfold ixG at hg
  split at hg
  · have := hy.int
    subst this
    split at hg
    · obtain ⟨a, vs, rfl, ha, ka⟩ := hx.lst
      obtain ⟨v, h1, h2⟩ := ka.atI hg
      exact .inl (.inl ⟨a, vs, _, v, rfl, rfl, SqL.of ha, h1, k v H (Same.refl _) h2⟩)
    · obtain ⟨a, vs, rfl, ha, ka⟩ := hx.tup
      obtain ⟨v, h1, h2⟩ := ka.atI hg
      exact .inl (.inr (.inl ⟨a, vs, _, v, rfl, rfl, ha, h1, k v H (Same.refl _) h2⟩))
    · obtain ⟨a, vs, rfl, ha, ka⟩ := See.scr hx
      obtain ⟨v, h1, h2⟩ := ka.atI hg
      exact .inl (.inl ⟨a, vs, _, v, rfl, rfl, ha, h1, k v H (Same.refl _) h2⟩)
    · split at hg
      · obtain ⟨c, h1, h2⟩ := Option.bind_eq_some_iff.mp hg
        cases h2
        exact .inl (.inr (.inr ⟨_, _, c, hx.str, rfl, by assumption, h1, k _ H (Same.refl _) (.str _)⟩))
      · cases hg
    · cases hg
  · exact .inr (sem_ixN O H x y dx _ d Q hO hx hy hg k)
  · cases hg
theorem d_item {a b : Expr} {fa fb : FV} {pos : Pos} (hu : X.A.units + 64 < cLine) (ha : PV X a fa) (hb : PV X b fb) (hs : PlainIx b := by exact fun _ _ => rfl) : PD X (.Subscript a b pos) (binD ixG fa fb) := d_ix (ix_seq.or (ix_N hu)) sem_ix ha hb hs
end

/-! ### slices -/
def cutD (xs : List α) (lo hi : Option Int) : List α := (xs.drop (HT.sIx xs.length 0 lo)).take (HT.sIx xs.length xs.length hi - HT.sIx xs.length 0 lo)
def slG (x : Dt) (lo hi : Option Int) : Option Dt := match x with
  | .list ds => some (.list (cutD ds lo hi))
  | .tuple ds => some (.tuple (cutD ds lo hi))
  | _ => none
abbrev FO := En → Option (Option Int × En)
def oN : FO := fun e => some (none, e)
def oS (f : FD) : FO := fun e => (f e).bind fun p => match p.1 with
  | .int i => some (some i, p.2)
  | _ => none
def slD (fa : FV) (fl fh : FO) : FD := fun e => (fa e).bind fun p => (fl p.2).bind fun q => (fh q.2).bind fun r => (toD r.2 p.1).bind fun x => (slG x q.1 r.1).bind fun d => some (d, r.2)
def tO (Y : Lay) (f : FO) : TO := fun σ H Q => ∃ F env o env', Rel Y F σ H env ∧ f env = some (o, env') ∧ ∀ H', Rel Y F σ H' env' → Kd env env' → Stp (Ow F σ env) H (Ow F σ env') H' → Q o H'
theorem _root_.L2.PO.imp {X : Cx} {e : Option Expr} {t t' : TO} (h : PO X e t) (k : ∀ σ H Q, t' σ H Q → t σ H Q) : PO X e t' := ⟨fun pins s σ H Q I q => h.run pins s σ H Q I (k σ H Q q)⟩
section
variable {X : Cx} {e a : Expr} {lo hi : Option Expr} {pos p2 : Pos}
theorem o_n : PO X none (tO X.lay oN) := PO.imp po_none fun σ H Q q => by
  obtain ⟨F, env, o, env', R0, hf, k⟩ := q
  cases hf
  exact k H R0 (Kd.refl _) Stp.refl
theorem o_s {f : FD} (h : PD X e f) : PO X (some e) (tO X.lay (oS f)) := (po_some h).imp fun σ H Q q => by
  obtain ⟨F, env, o, env', R0, hf, k⟩ := q
  obtain ⟨⟨d, e1⟩, h1, hf⟩ := Option.bind_eq_some_iff.mp hf
  refine ⟨F, env, d, e1, R0, h1, fun v H1 R1 kd s a => ?_⟩
  cases d with
  | int i =>
    cases hf
    cases a
    exact ⟨i, rfl, k H1 R1 kd s⟩
  | none => cases hf
  | bool _ => cases hf
  | str _ => cases hf
  | list _ => cases hf
  | tuple _ => cases hf
  | dict _ => cases hf
theorem Ats.cut {Y : Lay} {H : Hp} {vs : List V} {ds : List Dt} (h : Ats Y H vs ds) (lo hi : Option Int) : Ats Y H (cutV vs lo hi) (cutD ds lo hi) := by
  unfold cutV cutD
  rw [h.length]
  exact (h.drop _).take _
theorem cut_whole {xs : List α} {lo hi : Option Int} (h : HT.sIx xs.length 0 lo = 0 ∧ HT.sIx xs.length xs.length hi = xs.length) : cutD xs lo hi = xs := by
  unfold cutD
  rw [h.1, h.2]
  simp
def rSlLT (K : PySem.W.Frag) : V → Option Int → Option Int → Hp → VK → Prop := fun x lo hi H Q => rSlL K x lo hi H Q ∨ rSlA K x lo hi H Q
theorem sl_lt : SlR X (rSlLT X.K) := SlR.or sl_list sl_tupA
theorem sl_use {Y : Lay} {fa : FV} {fl fh : FO} : ∀ σ H Q, tD Y (slD fa fl fh) σ H Q → tSl (rSlLT Y.K) (tV Y fa) (tO Y fl) (tO Y fh) σ H Q := fun σ H Q q => by
  obtain ⟨F, env, d, env', R0, hf, k⟩ := q
  obtain ⟨⟨r1, e1⟩, h1, hf⟩ := Option.bind_eq_some_iff.mp hf
  obtain ⟨⟨o1, e2⟩, h2, hf⟩ := Option.bind_eq_some_iff.mp hf
  obtain ⟨⟨o2, e3⟩, h3, hf⟩ := Option.bind_eq_some_iff.mp hf
  obtain ⟨x, h4, hf⟩ := Option.bind_eq_some_iff.mp hf
  obtain ⟨z, h5, hf⟩ := Option.bind_eq_some_iff.mp hf
  cases hf
  refine ⟨F, env, r1, e1, R0, h1, fun v1 H1 R1 kd1 s1 a1 => ⟨F, e1, o1, _, R1, h2, fun H2 R2 kd2 s2 => ⟨F, e2, o2, _, R2, h3, fun H3 R3 kd3 s3 => ?_⟩⟩⟩
  have kd := (kd1.trans kd2).trans kd3
  have st := (s1.trans s2).trans s3
  have hx := ((a1.step kd2 s2).step kd3 s3).see' R3 h4
  have hO : ∀ a, Ow F σ e3 a → ∃ o, H3 a = some o := fun a h => R3.ow_there h
  have fin : ∀ v H', Same H3 H' → At Y (hide (Ow F σ e3) H') v d → Q v H' := fun v H' sm a => k v H' (R3.same sm) kd (st.trans (Stp.of sm)) a
  unfold slG at h5
  split at h5
  · cases h5
    obtain ⟨a, vs, rfl, ha, ka⟩ := hx.lst
    exact .inl ⟨a, vs, rfl, SqL.of ha, fun p hp => fin _ _ (same_upd hp) ((new_lst hp (ka.cut _ _)).at (hide_sub fun _ z => .inr z) fun o z => hide_some.mpr ⟨R3.fresh hp, z⟩)⟩
  · cases h5
    obtain ⟨a, vs, rfl, ha, ka⟩ := hx.tup
    refine .inr ⟨a, vs, rfl, ha, fun hw => ?_, fun hw p hp => fin _ _ (same_upd hp) (new_tup hO hp (ka.cut _ _))⟩
    rw [ka.length] at hw
    rw [cut_whole hw] at fin
    cases hx with
    | «at» h => exact fin _ H3 (Same.refl _) h
    | own h => cases h
  · cases h5
theorem d_slice {fa : FV} {fl fh : FO} (ha : PV X a fa) (hl : PO X lo (tO X.lay fl)) (hh : PO X hi (tO X.lay fh)) : PD X (.Subscript a (.Slice lo hi none p2) pos) (slD fa fl fh) := (pe_slice sl_lt ha hl hh).imp sl_use
end

/-! ### built-ins called by name -/
def lenG : List Dt → Option Dt
  | [.list ds] => some (.int ds.length)
  | [.tuple ds] => some (.int ds.length)
  | [.dict [(.none, .list ds)]] => some (.int ds.length)
  | [.str z] => if z.length ≤ sizeLine then some (.int z.length) else none
  | _ => none
def absG : List Dt → Option Dt
  | [.int i] => some (.int (if i < 0 then -i else i))
  | _ => none
def intG : List Dt → Option Dt
  | [.int i] => some (.int i)
  | [.bool k] => some (.int (if k then 1 else 0))
  | _ => none
def intsOf : List Dt → Option (List Int)
  | [] => some []
  | .int i :: ds => (intsOf ds).bind fun is => some (i :: is)
  | _ :: _ => none
def boolsOf : List Dt → Option (List Bool)
  | [] => some []
  | .bool i :: ds => (boolsOf ds).bind fun is => some (i :: is)
  | _ :: _ => none
/-- the greatest, the least -/
def maxI (i : Int) (is : List Int) : Int := is.foldl (fun m x => if x > m then x else m) i
def minI (i : Int) (is : List Int) : Int := is.foldl (fun m x => if x < m then x else m) i
def maxG : List Dt → Option Dt
  | [.int i, .int j] => some (.int (if j > i then j else i))
  | [.list ds] => match intsOf ds with
    | some (i :: is) => some (.int (maxI i is))
    | _ => none
  | _ => none
def minG : List Dt → Option Dt
  | [.int i, .int j] => some (.int (if j < i then j else i))
  | [.list ds] => match intsOf ds with
    | some (i :: is) => some (.int (minI i is))
    | _ => none
  | _ => none
def sumG : List Dt → Option Dt
  | [.list ds] => (intsOf ds).bind fun is => some (.int is.sum)
  | _ => none
def anyG : List Dt → Option Dt
  | [.list ds] => (boolsOf ds).bind fun bs => some (.bool (bs.any id))
  | _ => none
def allG : List Dt → Option Dt
  | [.list ds] => (boolsOf ds).bind fun bs => some (.bool (bs.all id))
  | _ => none
def tupG : List Dt → Option Dt
  | [.list ds] => some (.tuple ds)
  | [.tuple ds] => some (.tuple ds)
  | _ => none
def listG : List Dt → Option Dt
  | [.list ds] => some (.list ds)
  | [.tuple ds] => some (.list ds)
  | _ => none
theorem intsOf_some : ∀ {ds : List Dt} {is : List Int}, intsOf ds = some is → ds = is.map .int
  | [], _, h => by cases h; rfl
  | .int i :: ds, _, h => by
    obtain ⟨js, h1, h2⟩ := Option.bind_eq_some_iff.mp h
    cases h2
    rw [intsOf_some h1]; rfl
  | .none :: _, _, h => by cases h
  | .bool _ :: _, _, h => by cases h
  | .str _ :: _, _, h => by cases h
  | .list _ :: _, _, h => by cases h
  | .tuple _ :: _, _, h => by cases h
  | .dict _ :: _, _, h => by cases h
theorem boolsOf_some : ∀ {ds : List Dt} {is : List Bool}, boolsOf ds = some is → ds = is.map .bool
  | [], _, h => by cases h; rfl
  | .bool i :: ds, _, h => by
    obtain ⟨js, h1, h2⟩ := Option.bind_eq_some_iff.mp h
    cases h2
    rw [boolsOf_some h1]; rfl
  | .none :: _, _, h => by cases h
  | .int _ :: _, _, h => by cases h
  | .str _ :: _, _, h => by cases h
  | .list _ :: _, _, h => by cases h
  | .tuple _ :: _, _, h => by cases h
  | .dict _ :: _, _, h => by cases h
theorem intsOf_map (is : List Int) : intsOf (is.map .int) = some is := by
  induction is with
  | nil => rfl
  | cons i is ih => rw [List.map_cons]; show (intsOf _).bind _ = _; rw [ih]; rfl
theorem boolsOf_map (is : List Bool) : boolsOf (is.map .bool) = some is := by
  induction is with
  | nil => rfl
  | cons i is ih => rw [List.map_cons]; show (boolsOf _).bind _ = _; rw [ih]; rfl
theorem Ats.intsOf {Y : Lay} {H : Hp} : ∀ {vs : List V} {is : List Int}, Ats Y H vs (is.map .int) → vs = is.map V.int
  | _, [], .nil => rfl
  | _, i :: is, h => by
    cases h with
    | cons h k => cases h; rw [Ats.intsOf k]; rfl
theorem Ats.boolsOf {Y : Lay} {H : Hp} : ∀ {vs : List V} {is : List Bool}, Ats Y H vs (is.map .bool) → vs = is.map V.bl
  | _, [], .nil => rfl
  | _, i :: is, h => by
    cases h with
    | cons h k => cases h; rw [Ats.boolsOf k]; rfl
theorem maxI_ge : ∀ (is : List Int) (i : Int), i ≤ maxI i is ∧ (∀ x ∈ is, x ≤ maxI i is) ∧ (maxI i is = i ∨ maxI i is ∈ is)
  | [], i => ⟨Int.le_refl _, (fun _ h => nomatch h), .inl rfl⟩
  | a :: is, i => by
    have ih := maxI_ge is (if a > i then a else i)
    have e : maxI i (a :: is) = maxI (if a > i then a else i) is := rfl
    rw [e]
    refine ⟨by have := ih.1; split at this <;> omega, fun x hx => ?_, ?_⟩
    · rcases List.mem_cons.mp hx with rfl | hx
      · have := ih.1; split at this <;> omega
      · exact ih.2.1 x hx
    · rcases ih.2.2 with h | h
      · rw [h]
        split
        · exact .inr List.mem_cons_self
        · exact .inl rfl
      · exact .inr (List.mem_cons_of_mem _ h)
theorem minI_le : ∀ (is : List Int) (i : Int), minI i is ≤ i ∧ (∀ x ∈ is, minI i is ≤ x) ∧ (minI i is = i ∨ minI i is ∈ is)
  | [], i => ⟨Int.le_refl _, (fun _ h => nomatch h), .inl rfl⟩
  | a :: is, i => by
    have ih := minI_le is (if a < i then a else i)
    have e : minI i (a :: is) = minI (if a < i then a else i) is := rfl
    rw [e]
    refine ⟨by have := ih.1; split at this <;> omega, fun x hx => ?_, ?_⟩
    · rcases List.mem_cons.mp hx with rfl | hx
      · have := ih.1; split at this <;> omega
      · exact ih.2.1 x hx
    · rcases ih.2.2 with h | h
      · rw [h]
        split
        · exact .inr List.mem_cons_self
        · exact .inl rfl
      · exact .inr (List.mem_cons_of_mem _ h)
section
variable {Y : Lay} {X : Cx} {H : Hp} {O : Addr → Prop}
theorem Sees.one {xs : List V} {d : Dt} (h : Sees Y O H xs [d]) : ∃ x, xs = [x] ∧ See Y O H x d := by
  cases h with
  | cons h k => cases k; exact ⟨_, rfl, h⟩
theorem Sees.two {xs : List V} {d e : Dt} (h : Sees Y O H xs [d, e]) : ∃ x y, xs = [x, y] ∧ See Y O H x d ∧ See Y O H y e := by
  cases h with
  | cons h k =>
    cases k with
    | cons h' k => cases k; exact ⟨_, _, rfl, h, h'⟩
abbrev rLen (K : PySem.W.Frag) : List V → Hp → VK → Prop := fun xs H Q => ∃ x n, xs = [x] ∧ LenV K x H n ∧ Q (.int n) H
theorem sem_len : SemC Y (rLen Y.K) lenG := by
  intro O H xs ds d Q hO hs hg k
  unfold lenG at hg
  split at hg
  · cases hg
    obtain ⟨x, rfl, h⟩ := hs.one
    obtain ⟨a, vs, rfl, ha, ka⟩ := h.lst
    refine ⟨_, vs.length, rfl, .inl ⟨vs, SqL.of ha, rfl⟩, ?_⟩
    rw [ka.length]
    exact k _ H (Same.refl _) (.int _)
  · cases hg
    obtain ⟨x, rfl, h⟩ := hs.one
    obtain ⟨a, vs, rfl, ha, ka⟩ := h.tup
    refine ⟨_, vs.length, rfl, .inr ⟨vs, ha, rfl⟩, ?_⟩
    rw [ka.length]
    exact k _ H (Same.refl _) (.int _)
  · cases hg
    obtain ⟨x, rfl, h⟩ := hs.one
    obtain ⟨a, vs, rfl, ha, ka⟩ := See.scr h
    refine ⟨_, vs.length, rfl, .inl ⟨vs, ha, rfl⟩, ?_⟩
    rw [ka.length]
    exact k _ H (Same.refl _) (.int _)
  · split at hg
    · cases hg
      obtain ⟨x, rfl, h⟩ := hs.one
      have := h.str
      subst this
      exact ⟨_, _, rfl, ⟨by assumption, rfl⟩, k _ H (Same.refl _) (.int _)⟩
    · cases hg
  · cases hg
abbrev rAbs : List V → Hp → VK → Prop := fun xs H Q => ∃ i, xs = [.int i] ∧ Q (.int (if i < 0 then -i else i)) H
theorem sem_abs : SemC Y rAbs absG := by
  intro O H xs ds d Q hO hs hg k
  unfold absG at hg
  split at hg
  · cases hg
    obtain ⟨x, rfl, h⟩ := hs.one
    have := h.int
    subst this
    exact ⟨_, rfl, k _ H (Same.refl _) (.int _)⟩
  · cases hg
abbrev rInt : List V → Hp → VK → Prop := fun xs H Q => (∃ i, xs = [.int i] ∧ Q (.int i) H) ∨ ∃ k, xs = [.bl k] ∧ Q (.int (if k then 1 else 0)) H
theorem sem_int : SemC Y rInt intG := by
  intro O H xs ds d Q hO hs hg k
  unfold intG at hg
  split at hg
  · cases hg
    obtain ⟨x, rfl, h⟩ := hs.one
    have := h.int
    subst this
    exact .inl ⟨_, rfl, k _ H (Same.refl _) (.int _)⟩
  · cases hg
    obtain ⟨x, rfl, h⟩ := hs.one
    have := h.bl
    subst this
    exact .inr ⟨_, rfl, k _ H (Same.refl _) (.int _)⟩
  · cases hg
abbrev rMax2 : List V → Hp → VK → Prop := fun xs H Q => ∃ i j, xs = [.int i, .int j] ∧ Q (.int (if j > i then j else i)) H
abbrev rMin2 : List V → Hp → VK → Prop := fun xs H Q => ∃ i j, xs = [.int i, .int j] ∧ Q (.int (if j < i then j else i)) H
theorem sem_max : SemC Y (fun xs H Q => rMax2 xs H Q ∨ rMax Y.K xs H Q) maxG := by
  intro O H xs ds d Q hO hs hg k
  unfold maxG at hg
  split at hg
  · cases hg
    obtain ⟨x, y, rfl, h, h'⟩ := hs.two
    have := h.int
    subst this
    have := h'.int
    subst this
    exact .inl ⟨_, _, rfl, k _ H (Same.refl _) (.int _)⟩
  · split at hg
    · rename_i i is e
      cases hg
      obtain ⟨x, rfl, h⟩ := hs.one
      obtain ⟨a, vs, rfl, ha, ka⟩ := h.lst
      rw [intsOf_some e] at ka
      have := ka.intsOf
      subst this
      refine .inr ⟨a, i :: is, rfl, SqL.of ha, by simp, fun m hm hle => ?_⟩
      have e : m = maxI i is := by
        obtain ⟨h1, h2, h3⟩ := maxI_ge is i
        have a1 : m ≤ maxI i is := by
          rcases List.mem_cons.mp hm with rfl | z
          · exact h1
          · exact h2 m z
        have a2 : maxI i is ≤ m := by
          rcases h3 with z | z
          · rw [z]; exact hle i List.mem_cons_self
          · exact hle _ (List.mem_cons_of_mem _ z)
        omega
      rw [e]
      exact k _ H (Same.refl _) (.int _)
    · cases hg
  · cases hg
theorem sem_min : SemC Y (fun xs H Q => rMin2 xs H Q ∨ rMin Y.K xs H Q) minG := by
  intro O H xs ds d Q hO hs hg k
  unfold minG at hg
  split at hg
  · cases hg
    obtain ⟨x, y, rfl, h, h'⟩ := hs.two
    have := h.int
    subst this
    have := h'.int
    subst this
    exact .inl ⟨_, _, rfl, k _ H (Same.refl _) (.int _)⟩
  · split at hg
    · rename_i i is e
      cases hg
      obtain ⟨x, rfl, h⟩ := hs.one
      obtain ⟨a, vs, rfl, ha, ka⟩ := h.lst
      rw [intsOf_some e] at ka
      have := ka.intsOf
      subst this
      refine .inr ⟨a, i :: is, rfl, SqL.of ha, by simp, fun m hm hle => ?_⟩
      have e : m = minI i is := by
        obtain ⟨h1, h2, h3⟩ := minI_le is i
        have a1 : minI i is ≤ m := by
          rcases List.mem_cons.mp hm with rfl | z
          · exact h1
          · exact h2 m z
        have a2 : m ≤ minI i is := by
          rcases h3 with z | z
          · rw [z]; exact hle i List.mem_cons_self
          · exact hle _ (List.mem_cons_of_mem _ z)
        omega
      rw [e]
      exact k _ H (Same.refl _) (.int _)
    · cases hg
  · cases hg
theorem sem_sum : SemC Y (rSum Y.K) sumG := by
  intro O H xs ds d Q hO hs hg k
  unfold sumG at hg
  split at hg
  · obtain ⟨is, e, hg⟩ := Option.bind_eq_some_iff.mp hg
    cases hg
    obtain ⟨x, rfl, h⟩ := hs.one
    obtain ⟨a, vs, rfl, ha, ka⟩ := h.lst
    rw [intsOf_some e] at ka
    have := ka.intsOf
    subst this
    exact ⟨a, is, rfl, SqL.of ha, k _ H (Same.refl _) (.int _)⟩
  · cases hg
theorem sem_any : SemC Y (rAny Y.K) anyG := by
  intro O H xs ds d Q hO hs hg k
  unfold anyG at hg
  split at hg
  · obtain ⟨is, e, hg⟩ := Option.bind_eq_some_iff.mp hg
    cases hg
    obtain ⟨x, rfl, h⟩ := hs.one
    obtain ⟨a, vs, rfl, ha, ka⟩ := h.lst
    rw [boolsOf_some e] at ka
    have := ka.boolsOf
    subst this
    exact ⟨a, is, rfl, SqL.of ha, k _ H (Same.refl _) (.bl _)⟩
  · cases hg
theorem sem_all : SemC Y (rAll Y.K) allG := by
  intro O H xs ds d Q hO hs hg k
  unfold allG at hg
  split at hg
  · obtain ⟨is, e, hg⟩ := Option.bind_eq_some_iff.mp hg
    cases hg
    obtain ⟨x, rfl, h⟩ := hs.one
    obtain ⟨a, vs, rfl, ha, ka⟩ := h.lst
    rw [boolsOf_some e] at ka
    have := ka.boolsOf
    subst this
    exact ⟨a, is, rfl, SqL.of ha, k _ H (Same.refl _) (.bl _)⟩
  · cases hg
abbrev rTupOf (K : PySem.W.Frag) : List V → Hp → VK → Prop := fun xs H Q => ∃ p ys, xs = [.ref p] ∧ ((SqL K H p ys ∧ ∀ l, H l = none → Q (.ref l) (upd H l (.tup ys))) ∨ (SqT K H p ys ∧ Q (.ref p) H))
theorem sem_tup : SemC Y (rTupOf Y.K) tupG := by
  intro O H xs ds d Q hO hs hg k
  unfold tupG at hg
  split at hg
  · cases hg
    obtain ⟨x, rfl, h⟩ := hs.one
    obtain ⟨a, vs, rfl, ha, ka⟩ := h.lst
    exact ⟨a, vs, rfl, .inl ⟨SqL.of ha, fun p hp => k _ _ (same_upd hp) (new_tup hO hp ka)⟩⟩
  · cases hg
    obtain ⟨x, rfl, h⟩ := hs.one
    cases h with
    | «at» h =>
      obtain ⟨a, vs, rfl, ha, ka⟩ := (See.at h).tup
      exact ⟨a, vs, rfl, .inr ⟨ha, k _ H (Same.refl _) h⟩⟩
    | own h => cases h
  · cases hg
abbrev rListOf (K : PySem.W.Frag) : List V → Hp → VK → Prop := fun xs H Q => ∃ p ys, xs = [.ref p] ∧ (SqL K H p ys ∨ SqT K H p ys) ∧ ∀ l, H l = none → Q (.ref l) (upd H l (.lst ys))
theorem sem_list : SemFC Y (rListOf Y.K) listG := by
  intro O H xs ds d Q hO hs hg k
  unfold listG at hg
  split at hg
  · cases hg
    obtain ⟨x, rfl, h⟩ := hs.one
    obtain ⟨a, vs, rfl, ha, ka⟩ := h.lst
    exact ⟨a, vs, rfl, .inl (SqL.of ha), fun p hp => k p _ _ hp upd_same (same_upd hp) (new_lst hp ka)⟩
  · cases hg
    obtain ⟨x, rfl, h⟩ := hs.one
    obtain ⟨a, vs, rfl, ha, ka⟩ := h.tup
    exact ⟨a, vs, rfl, .inr ha, fun p hp => k p _ _ hp upd_same (same_upd hp) (new_lst hp ka)⟩
  · cases hg
end
section
variable {X : Cx} {x : Str} {p pos : Pos} {e a b : Expr} {es : List Expr} {f : FA} {id T : String}
/-- a built-in, by its name -/
theorem d_callB {r : List V → Hp → VK → Prop} {g : List Dt → Option Dt} (hc : CallR X (.builtin id) r) (hs : SemC X.lay r g) (hm : X.mg x = none) (hv : bootBuiltins x = some (.builtin id)) (ha : PAs X (e :: es) f) (hg : Gl X x := by rfl) (hn : x ≠ "__name__" := by decide) (hdb : (x == ("__debug__" : Str)) = false := by decide)
    (he : starEach (e :: es) X.env = (false, eval e X.env) :: starEach es X.env := by rfl) (hpl : (backTo pos (starEach es X.env)).any (·.1) = false := by rfl) : PD X (.Call (.Name x p) (e :: es) [] pos) (callD g f) :=
  (pe_callB hc hg hm hv ha hn hdb he hpl).imp (call_use hs)
theorem d_callT {r : List V → Hp → VK → Prop} {g : List Dt → Option Dt} (hc : CallR X (.type T) r) (hs : SemC X.lay r g) (hm : X.mg x = none) (hv : bootBuiltins x = some (.type T)) (ha : PAs X (e :: es) f) (hg : Gl X x := by rfl) (hn : x ≠ "__name__" := by decide) (hdb : (x == ("__debug__" : Str)) = false := by decide)
    (he : starEach (e :: es) X.env = (false, eval e X.env) :: starEach es X.env := by rfl) (hpl : (backTo pos (starEach es X.env)).any (·.1) = false := by rfl) : PD X (.Call (.Name x p) (e :: es) [] pos) (callD g f) :=
  (pe_callTy hc hg hm hv ha hn hdb he hpl).imp (call_use hs)
theorem f_callT {r : List V → Hp → VK → Prop} {g : List Dt → Option Dt} (hc : CallR X (.type T) r) (hs : SemFC X.lay r g) (hm : X.mg x = none) (hv : bootBuiltins x = some (.type T)) (ha : PAs X (e :: es) f) (hg : Gl X x := by rfl) (hn : x ≠ "__name__" := by decide) (hdb : (x == ("__debug__" : Str)) = false := by decide)
    (he : starEach (e :: es) X.env = (false, eval e X.env) :: starEach es X.env := by rfl) (hpl : (backTo pos (starEach es X.env)).any (·.1) = false := by rfl) : PF X (.Call (.Name x p) (e :: es) [] pos) (callD g f) :=
  (pe_callTy hc hg hm hv ha hn hdb he hpl).imp (call_useF hs)
end
end DL

set_option Elab.async false
set_option linter.all false
set_option maxRecDepth 100000
set_option autoImplicit true
/-! DL4: statements, targets, loops. -/
namespace DL
open PySem L2

inductive Out | nx (e : En) | rt (d : Dt) (e : En) | bk (e : En) | ct (e : En)
abbrev FS := En → Option Out
/-- what an outcome asks -/
def OutK (Y : Lay) (F : Fr) (σ : St) (H : Hp) (env : En) (D : Ends) : Out → Prop
  | .nx e => ∀ σ' H', Rel Y F σ' H' e → Stp (Ow F σ env) H (Ow F σ' e) H' → D.nx σ' H'
  | .bk e => ∀ σ' H', Rel Y F σ' H' e → Stp (Ow F σ env) H (Ow F σ' e) H' → D.bk σ' H'
  | .ct e => ∀ σ' H', Rel Y F σ' H' e → Stp (Ow F σ env) H (Ow F σ' e) H' → D.ct σ' H'
  | .rt d e => ∀ v σ' H', Rel Y F σ' H' e → At Y (hide (fun a => F.O0 a ∨ a ∈ F.ms) H') v d → D.rt v H'
def tS (Y : Lay) (m : Nat) (f : FS) : TS := fun D σ H => ∃ F env out, F.ms.length = m ∧ Rel Y F σ H env ∧ f env = some out ∧ OutK Y F σ H env D out
abbrev PZ (X : Cx) (m : Nat) (st : Stmt) (f : FS) : Prop := PS X st (tS X.lay m f)
abbrev PZs (X : Cx) (m : Nat) (st : List Stmt) (f : FS) : Prop := PSs X st (tS X.lay m f)

def skS : FS := fun e => some (.nx e)
def sqS (f g : FS) : FS := fun e => (f e).bind fun o => match o with
  | .nx e' => g e'
  | o => some o
def ifS (t : FT) (f g : FS) : FS := fun e => (t e).bind fun p => if p.1 = true then f p.2 else g p.2
def rtS (f : FD) : FS := fun e => (f e).bind fun p => some (.rt p.1 p.2)
def rtO (i : Nat) : FS := fun e => match e[i]? with
  | some (.own d) => some (.rt d e)
  | _ => none
def rtN : FS := fun e => some (.rt .none e)
def exS (f : FV) : FS := fun e => (f e).bind fun p => some (.nx p.2)
def neS : FS := fun _ => none

section
variable {Y : Lay} {F : Fr} {σ σ' : St} {H H' : Hp} {env env' : En} {D D' : Ends} {m : Nat}
theorem OutK.step {o : Out} (s : Stp (Ow F σ env) H (Ow F σ' env') H') (h : OutK Y F σ H env D o) : OutK Y F σ' H' env' D o := by
  cases o with
  | nx e => exact fun σ2 H2 R s2 => h σ2 H2 R (s.trans s2)
  | bk e => exact fun σ2 H2 R s2 => h σ2 H2 R (s.trans s2)
  | ct e => exact fun σ2 H2 R s2 => h σ2 H2 R (s.trans s2)
  | rt d e => exact h
theorem ms_ow (R0 : Rel Y F σ H env) : ∀ a, (F.O0 a ∨ a ∈ F.ms) → Ow F σ env a := fun a z => by
  rcases z with z | z
  · exact .inl z
  · obtain ⟨j, hj, e⟩ := List.mem_iff_getElem.mp z
    obtain ⟨h1, d, h2⟩ := R0.msAt j a (by rw [List.getElem?_eq_getElem hj, e])
    exact .inr ⟨j, d, h2, h1⟩
/-- a name's new data -/
theorem Rel.set (R0 : Rel Y F σ H env) {i : Nat} {v : V} {d : Dt} (hi : F.ms.length ≤ i) (a : At Y (hide (Ow F σ env) H) v d) :
    Rel Y F (σ.set i (some v)) H (env.set i (.dat d)) ∧ Stp (Ow F σ env) H (Ow F (σ.set i (some v)) (env.set i (.dat d))) H := by
  have sub : ∀ b, Ow F (σ.set i (some v)) (env.set i (.dat d)) b → Ow F σ env b := fun b z => by
    rcases z with z | ⟨j, e, h1, h2⟩
    · exact .inl z
    · by_cases hj : i = j
      · subst hj
        rw [List.getElem?_set] at h1
        simp only [if_pos] at h1
        split at h1 <;> cases h1
      · rw [List.getElem?_set_ne hj] at h1 h2
        exact .inr ⟨j, e, h1, h2⟩
  have sm := hide_sub (H := H) sub
  refine ⟨⟨R0.dom, R0.msO, by simp [R0.len], R0.keep, fun j e h => ?_, fun j k e e' b h1 h2 h3 h4 => ?_, fun j e h => ?_, fun j b h => ?_⟩, fun b o n e => ⟨fun z => n (sub b z), e⟩⟩
  · by_cases hj : i = j
    · subst hj
      rw [List.getElem?_set] at h
      simp only [if_pos] at h
      split at h <;> cases h
    · rw [List.getElem?_set_ne hj] at h ⊢
      obtain ⟨b, h1, h2, h3⟩ := R0.own j e h
      exact ⟨b, h1, h2.mono sm fun _ z => z, h3⟩
  · by_cases hj : i = j
    · subst hj
      rw [List.getElem?_set] at h1
      simp only [if_pos] at h1
      split at h1 <;> cases h1
    · by_cases hk : i = k
      · subst hk
        rw [List.getElem?_set] at h2
        simp only [if_pos] at h2
        split at h2 <;> cases h2
      · rw [List.getElem?_set_ne hj] at h1 h3
        rw [List.getElem?_set_ne hk] at h2 h4
        exact R0.inj j k e e' b h1 h2 h3 h4
  · by_cases hj : i = j
    · subst hj
      rw [List.getElem?_set] at h ⊢
      simp only [if_pos] at h ⊢
      split at h
      · rename_i hl
        cases h
        rw [R0.len, if_pos hl]
        exact ⟨v, rfl, a.mono sm⟩
      · cases h
    · rw [List.getElem?_set_ne hj] at h ⊢
      obtain ⟨b, h1, h2⟩ := R0.dat j e h
      exact ⟨b, h1, h2.mono sm⟩
  · have hj : i ≠ j := fun z => by
      have := (List.getElem?_eq_some_iff.mp h).1
      omega
    rw [List.getElem?_set_ne hj, List.getElem?_set_ne hj]
    exact R0.msAt j b h
/-- a name's new object -/
theorem Rel.setOwn {i : Nat} {p : Addr} {o : HO} {d : Dt} (R1 : Rel Y (F.plus p o) σ H env) (hi : F.ms.length ≤ i) (hl : i < env.length) (h0 : F.H0 p = none) (no : ¬ F.O0 p) (a : OwnAt Y (hide (Ow (F.plus p o) σ env) H) H p d) :
    Rel Y F (σ.set i (some (.ref p))) H (env.set i (.own d)) ∧ Stp (Ow (F.plus p o) σ env) H (Ow F (σ.set i (some (.ref p))) (env.set i (.own d))) H := by
  have at_i : (env.set i (.own d))[i]? = some (.own d) := by rw [List.getElem?_set]; simp [hl]
  have as_i : (σ.set i (some (V.ref p)))[i]? = some (some (.ref p)) := by rw [List.getElem?_set]; simp [R1.len, hl]
  have sub : ∀ b, Ow F (σ.set i (some (.ref p))) (env.set i (.own d)) b → Ow (F.plus p o) σ env b := fun b z => by
    rcases z with z | ⟨j, e, h1, h2⟩
    · exact .inl (.inr z)
    · by_cases hj : i = j
      · subst hj
        rw [as_i] at h2
        cases h2
        exact .inl (.inl rfl)
      · rw [List.getElem?_set_ne hj] at h1 h2
        exact .inr ⟨j, e, h1, h2⟩
  have sm := hide_sub (H := H) sub
  have np : ∀ (j : Nat) e b, env[j]? = some (.own e) → σ[j]? = some (some (V.ref b)) → b ≠ p := fun j e b h1 h2 z => R1.own_no h1 h2 (.inl z)
  have old : ∀ b u, F.H0 b = some u → upd F.H0 p o b = some u := fun b u e => by rw [upd_ne (ne_of_none e h0)]; exact e
  refine ⟨⟨fun b z => ?_, fun b h z => R1.msO b h (.inr z), by simp [R1.len], fun b u h n => R1.keep b u (old b u h) n, fun j e h => ?_, fun j k e e' b h1 h2 h3 h4 => ?_, fun j e h => ?_, fun j b h => ?_⟩, fun b u n e => ⟨fun z => n (sub b z), e⟩⟩
  · obtain ⟨u, q⟩ := R1.dom b (.inr z)
    have q' : upd F.H0 p o b = some u := q
    rw [upd_ne (fun (w : b = p) => no (w ▸ z))] at q'
    exact ⟨u, q'⟩
  · by_cases hj : i = j
    · subst hj
      rw [at_i] at h
      cases h
      exact ⟨p, as_i, a.mono sm fun _ z => z, .inr h0⟩
    · rw [List.getElem?_set_ne hj] at h ⊢
      obtain ⟨b, h1, h2, h3⟩ := R1.own j e h
      refine ⟨b, h1, h2.mono sm fun _ z => z, ?_⟩
      rcases h3 with h3 | h3
      · exact .inl h3
      · have h3' : upd F.H0 p o b = none := h3
        rw [upd_ne (np j e b h h1)] at h3'
        exact .inr h3'
  · by_cases hj : i = j
    · subst hj
      rw [as_i] at h3
      cases h3
      by_cases hk : i = k
      · exact hk
      · rw [List.getElem?_set_ne hk] at h2 h4
        exact absurd rfl (np k e' p h2 h4)
    · rw [List.getElem?_set_ne hj] at h1 h3
      by_cases hk : i = k
      · subst hk
        rw [as_i] at h4
        cases h4
        exact absurd rfl (np j e p h1 h3)
      · rw [List.getElem?_set_ne hk] at h2 h4
        exact R1.inj j k e e' b h1 h2 h3 h4
  · by_cases hj : i = j
    · subst hj
      rw [at_i] at h
      cases h
    · rw [List.getElem?_set_ne hj] at h ⊢
      obtain ⟨b, h1, h2⟩ := R1.dat j e h
      exact ⟨b, h1, h2.mono sm⟩
  · have hj : i ≠ j := fun z => by
      have := (List.getElem?_eq_some_iff.mp h).1
      have e : (F.plus p o).ms = F.ms := rfl
      omega
    rw [List.getElem?_set_ne hj, List.getElem?_set_ne hj]
    exact R1.msAt j b h
/-- an own object's new content (the names and all other objects as they are) -/
theorem Rel.write (R0 : Rel Y F σ H env) {i : Nat} {a : Addr} {d d' : Dt} (hc : env[i]? = some (.own d)) (hs : σ[i]? = some (some (V.ref a))) (k : ∀ b o, b ≠ a → H b = some o → H' b = some o)
    (w : Same (hide (Ow F σ env) H) (hide (Ow F σ env) H') → OwnAt Y (hide (Ow F σ env) H') H' a d') : Rel Y F σ H' (env.set i (.own d')) ∧ Kd env (env.set i (.own d')) ∧ Stp (Ow F σ env) H (Ow F σ (env.set i (.own d'))) H' := by
  have hl : i < env.length := (List.getElem?_eq_some_iff.mp hc).1
  have at_i : (env.set i (.own d'))[i]? = some (.own d') := by rw [List.getElem?_set]; simp [hl]
  have kd : Kd env (env.set i (.own d')) := fun j => by
    by_cases hj : i = j
    · subst hj
      exact .inr ⟨d, d', hc, at_i⟩
    · exact .inl (List.getElem?_set_ne hj)
  have ow : Ow F σ (env.set i (.own d')) = Ow F σ env := kd.ow.symm
  have oa : Ow F σ env a := .inr ⟨i, d, hc, hs⟩
  have st : Stp (Ow F σ env) H (Ow F σ env) H' := fun b o n e => ⟨n, k b o (fun z => n (z ▸ oa)) e⟩
  have sm := st.same
  have wa := w sm
  have there : ∀ b o, b ≠ a → H b = some o → H' b = some o := k
  refine ⟨⟨R0.dom, R0.msO, by simp [R0.len], fun b o h n => ?_, fun j e h => ?_, fun j k' e e' b h1 h2 h3 h4 => ?_, fun j e h => ?_, fun j b h => ?_⟩, kd, by rw [ow]; exact st⟩
  · refine k b o (fun z => ?_) (R0.keep b o h n)
    subst z
    obtain ⟨c, h1, h2, h3⟩ := R0.own i d hc
    rw [hs] at h1
    cases h1
    rcases h3 with h3 | h3
    · exact n h3
    · rw [h3] at h; cases h
  · rw [ow]
    by_cases hj : i = j
    · subst hj
      rw [at_i] at h
      cases h
      obtain ⟨c, h1, h2, h3⟩ := R0.own i d hc
      rw [hs] at h1
      cases h1
      exact ⟨_, hs, wa, h3⟩
    · rw [List.getElem?_set_ne hj] at h
      obtain ⟨b, h1, h2, h3⟩ := R0.own j e h
      refine ⟨b, h1, h2.mono sm fun o z => k b o (fun w => ?_) z, h3⟩
      subst w
      exact hj (R0.inj i j d e _ hc h hs h1)
  · obtain ⟨e1, he1⟩ := (kd.own j).mpr ⟨e, h1⟩
    obtain ⟨e2, he2⟩ := (kd.own k').mpr ⟨e', h2⟩
    exact R0.inj j k' e1 e2 b he1 he2 h3 h4
  · rw [ow]
    by_cases hj : i = j
    · subst hj
      rw [at_i] at h
      cases h
    · rw [List.getElem?_set_ne hj] at h
      obtain ⟨b, h1, h2⟩ := R0.dat j e h
      exact ⟨b, h1, h2.mono sm⟩
  · obtain ⟨h1, e, h2⟩ := R0.msAt j b h
    exact ⟨h1, (kd.own j).mp ⟨e, h2⟩⟩
end

/-! ### blocks and small statements -/
section
variable {X : Cx} {Y : Lay} {F : Fr} {σ : St} {H H' : Hp} {env env' : En} {m : Nat} {st : Stmt} {rest : List Stmt} {e : Expr} {pos : Pos}
theorem seq_use {f g : FS} : ∀ D σ H, tS Y m (sqS f g) D σ H → tSeq (tS Y m f) (tS Y m g) D σ H := fun D σ H q => by
  obtain ⟨F, env, out, hm, R0, hf, k⟩ := q
  obtain ⟨o, h1, hf⟩ := Option.bind_eq_some_iff.mp hf
  refine ⟨F, env, o, hm, R0, h1, ?_⟩
  cases o with
  | nx e1 => exact fun σ' H' R1 s => ⟨F, e1, out, hm, R1, hf, k.step s⟩
  | rt d e1 => cases hf; exact k
  | bk e1 => cases hf; exact k
  | ct e1 => cases hf; exact k
theorem z_nil : PZs X m [] skS := PSs.imp pss_nil fun D σ H q => by
  obtain ⟨F, env, out, hm, R0, hf, k⟩ := q
  cases hf
  exact k σ H R0 Stp.refl
theorem z_cons {f g : FS} (h : PZ X m st f) (k : PZs X m rest g) : PZs X m (st :: rest) (sqS f g) := (pss_cons h k).imp seq_use
theorem z_one {f : FS} (h : PZ X m st f) : PZs X m [st] f := pss_one h
theorem z_pass : PZ X m (.Pass pos) skS := ps_pass.imp fun D σ H q => by
  obtain ⟨F, env, out, hm, R0, hf, k⟩ := q
  cases hf
  exact k σ H R0 Stp.refl
def bkS : FS := fun e => some (.bk e)
def ctS : FS := fun e => some (.ct e)
theorem z_break : PZ X m (.Break pos) bkS := ps_break.imp fun D σ H q => by
  obtain ⟨F, env, out, hm, R0, hf, k⟩ := q
  cases hf
  exact k σ H R0 Stp.refl
theorem z_cont : PZ X m (.Continue pos) ctS := ps_continue.imp fun D σ H q => by
  obtain ⟨F, env, out, hm, R0, hf, k⟩ := q
  cases hf
  exact k σ H R0 Stp.refl
theorem z_never : PZ X m st neS := ps_never.imp fun D σ H q => by
  obtain ⟨F, env, out, hm, R0, hf, k⟩ := q
  cases hf
theorem z_nevers {sts : List Stmt} : PZs X m sts neS := pss_never.imp fun D σ H q => by
  obtain ⟨F, env, out, hm, R0, hf, k⟩ := q
  cases hf
theorem z_expr {f : FV} (h : PV X e f) (hs : swapsWith e none pos.line X.env = pure false := by rfl) : PZ X m (.Expr e pos) (exS f) := (ps_expr h hs).imp fun D σ H q => by
  obtain ⟨F, env, out, hm, R0, hf, k⟩ := q
  obtain ⟨⟨r, e1⟩, h1, hf⟩ := Option.bind_eq_some_iff.mp hf
  cases hf
  exact ⟨F, env, r, e1, R0, h1, fun v H' R1 kd s a => k σ H' R1 s⟩
theorem z_ret {f : FD} (h : PD X e f) : PZ X m (.Return (some e) pos) (rtS f) := (ps_ret h).imp fun D σ H q => by
  obtain ⟨F, env, out, hm, R0, hf, k⟩ := q
  obtain ⟨⟨d, e1⟩, h1, hf⟩ := Option.bind_eq_some_iff.mp hf
  cases hf
  exact ⟨F, env, d, e1, R0, h1, fun v H' R1 kd s a => k v σ H' R1 (a.mono (hide_sub (ms_ow R1)))⟩
theorem z_retN : PZ X m (.Return none pos) rtN := ps_retN.imp fun D σ H q => by
  obtain ⟨F, env, out, hm, R0, hf, k⟩ := q
  cases hf
  exact k _ σ H R0 .non
theorem z_retO (i : Nat) (hi : m ≤ i) {f : FV} (h : PV X e (xV i)) : PZ X m (.Return (some e) pos) (rtO i) := (ps_ret h).imp fun D σ H q => by
  obtain ⟨F, env, out, hm, R0, hf, k⟩ := q
  unfold rtO at hf
  cases hc : env[i]? with
  | none => rw [hc] at hf; cases hf
  | some c =>
    rw [hc] at hf
    cases c with
    | un => cases hf
    | dat d => cases hf
    | own d =>
      cases hf
      refine ⟨F, env, .o i, env, R0, by unfold xV; rw [hc], fun v H' R1 kd s a => ?_⟩
      obtain ⟨h1, _⟩ := a
      obtain ⟨b, h3, h4, h5⟩ := R1.own i d hc
      rw [h1] at h3
      cases h3
      have nb : ¬ (F.O0 b ∨ b ∈ F.ms) := by
        rintro (z | z)
        · exact R1.own_no hc h1 z
        · obtain ⟨j, hj, e'⟩ := List.mem_iff_getElem.mp z
          obtain ⟨g1, d', g2⟩ := R1.msAt j b (by rw [List.getElem?_eq_getElem hj, e'])
          have := R1.inj i j d d' b hc g2 h1 g1
          omega
      exact k _ σ H' R1 (h4.at (hide_sub (ms_ow R1)) fun o z => hide_some.mpr ⟨nb, z⟩)
theorem z_if {c : Expr} {a b : List Stmt} {t : FT} {f g : FS} (hc : PB X c t) (ha : PZs X m a f) (hb : PZs X m b g) : PZ X m (.If c a b pos) (ifS t f g) := (ps_if hc ha hb).imp fun D σ H q => by
  obtain ⟨F, env, out, hm, R0, hf, k⟩ := q
  obtain ⟨⟨c, e1⟩, h1, hf⟩ := Option.bind_eq_some_iff.mp hf
  refine ⟨F, env, c, e1, R0, h1, fun H' R1 kd s => ?_⟩
  cases c with
  | true => exact ⟨F, e1, out, hm, R1, by simpa using hf, k.step s⟩
  | false => exact ⟨F, e1, out, hm, R1, by simpa using hf, k.step s⟩
end

/-! ### targets -/
abbrev FG := Dt → En → Option En
/-- names outside ss are as they were -/
def Out1 (ss : List Nat) (σ σ' : St) (env env' : En) : Prop := env'.length = env.length ∧ ∀ j : Nat, j ∉ ss → σ'[j]? = σ[j]? ∧ env'[j]? = env[j]?
def tG (Y : Lay) (ss : List Nat) (g : FG) : TG := fun v σ H Q => ∃ F env d env', (∀ i ∈ ss, F.ms.length ≤ i) ∧ Rel Y F σ H env ∧ At Y (hide (Ow F σ env) H) v d ∧ g d env = some env' ∧ ∀ σ', Rel Y F σ' H env' → Stp (Ow F σ env) H (Ow F σ' env') H → Out1 ss σ σ' env env' → Q σ' H
abbrev FGs := List Dt → En → Option En
def tGs (Y : Lay) (ss : List Nat) (g : FGs) : TGs := fun vs σ H Q => ∃ F env ds env', (∀ i ∈ ss, F.ms.length ≤ i) ∧ Rel Y F σ H env ∧ Ats Y (hide (Ow F σ env) H) vs ds ∧ g ds env = some env' ∧ ∀ σ', Rel Y F σ' H env' → Stp (Ow F σ env) H (Ow F σ' env') H → Out1 ss σ σ' env env' → Q σ' H
abbrev PGd (X : Cx) (ss : List Nat) (e : Expr) (g : FG) : Prop := PG X e (tG X.lay ss g)
abbrev PGds (X : Cx) (ss : List Nat) (e : List Expr) (g : FGs) : Prop := PGs X e (tGs X.lay ss g)
theorem _root_.L2.PG.imp {X : Cx} {e : Expr} {t t' : TG} (h : PG X e t) (k : ∀ v σ H Q, t' v σ H Q → t v σ H Q) : PG X e t' := ⟨fun pins s σ H v u Q I r q => h.run pins s σ H v u Q I r (k v σ H Q q)⟩
theorem _root_.L2.PGs.imp {X : Cx} {e : List Expr} {t t' : TGs} (h : PGs X e t) (k : ∀ v σ H Q, t' v σ H Q → t v σ H Q) : PGs X e t' := ⟨fun pins s σ H v u Q I r q => h.run pins s σ H v u Q I r (k v σ H Q q)⟩
theorem _root_.L2.PG.or {X : Cx} {e : Expr} {t t' : TG} (h : PG X e t) (k : PG X e t') : PG X e (fun v σ H Q => t v σ H Q ∨ t' v σ H Q) := ⟨fun pins s σ H v u Q I r q => q.elim (h.run pins s σ H v u Q I r) (k.run pins s σ H v u Q I r)⟩
def gN (i : Nat) : FG := fun d e => some (e.set i (.dat d))
def gsN : FGs := fun ds e => match ds with
  | [] => some e
  | _ => none
def gsC (g : FG) (gs : FGs) : FGs := fun ds e => match ds with
  | d :: ds => (g d e).bind fun e' => gs ds e'
  | [] => none
def gT (n : Nat) (gs : FGs) : FG := fun d e => match d with
  | .tuple ds => if ds.length = n then gs ds e else none
  | .list ds => if ds.length = n then gs ds e else none
  | _ => none
section
variable {X : Cx} {m : Nat} {pos : Pos}
theorem g_n (i : Nat) {x : Str} (hN : X.N.Nodup) (hi : X.N[i]? = some x := by rfl) (hx : Loc X.env.scope x := by first | exact Or.inl rfl | exact Or.inr rfl) (hf : X.fn x = true ∨ X.env.scope.names.lookup x = some .local := by first | exact .inl rfl | exact .inr rfl) : PGd X [i] (.Name x pos) (gN i) := (pg_name hN hi hx hf).imp fun v σ H Q q => by
  obtain ⟨F, env, d, env', hm', R0, a, hg, k⟩ := q
  cases hg
  obtain ⟨R1, s⟩ := R0.set (hm' i (by simp)) a
  refine k _ R1 s ⟨by simp, fun j hj => ?_⟩
  have hj' : i ≠ j := fun z => hj (by simp [z])
  exact ⟨List.getElem?_set_ne hj', List.getElem?_set_ne hj'⟩
theorem gs_n : PGds X [] [] gsN := pgs_nil.imp fun vs σ H Q q => by
  obtain ⟨F, env, ds, env', hm, R0, a, hg, k⟩ := q
  cases a with
  | nil =>
    cases hg
    exact ⟨rfl, k σ R0 Stp.refl ⟨rfl, fun _ _ => ⟨rfl, rfl⟩⟩⟩
  | cons _ _ => cases hg
theorem gs_c {ss ss' : List Nat} {e : Expr} {es : List Expr} {g : FG} {gs : FGs} (h1 : PGd X ss e g) (h2 : PGds X ss' es gs) (hs : (assignEach (e :: es) X.env).map (·.2) = assign e X.env :: (assignEach es X.env).map (·.2) := by rfl) : PGds X (ss ++ ss') (e :: es) (gsC g gs) := (pgs_cons h1 h2 hs).imp fun vs σ H Q q => by
  obtain ⟨F, env, ds, env', hm, R0, a, hg, k⟩ := q
  cases a with
  | nil => cases hg
  | cons a as =>
    obtain ⟨e1, h1, hg⟩ := Option.bind_eq_some_iff.mp hg
    exact ⟨_, _, rfl, F, env, _, e1, (fun i hi => hm i (List.mem_append_left _ hi)), R0, a, h1, fun σ1 R1 s1 o1 => ⟨F, e1, _, env', (fun i hi => hm i (List.mem_append_right _ hi)), R1, as.mono s1.same, hg, fun σ2 R2 s2 o2 => k σ2 R2 (s1.trans s2) ⟨o2.1.trans o1.1, fun j hj => by
      rw [List.mem_append, not_or] at hj
      exact ⟨(o2.2 j hj.2).1.trans (o1.2 j hj.1).1, (o2.2 j hj.2).2.trans (o1.2 j hj.1).2⟩⟩⟩⟩
theorem g_t {ss : List Nat} {es : List Expr} {k : Nat} {gs : FGs} {n : Nat} (hc : X.calm = true) (h : PGds X ss es gs)
    (hn : (assignEach es X.env).length = n := by rfl) (hst : (assignEach es X.env).findIdx? (·.1) = none := by rfl) : PGd X ss (.Tuple es k pos) (gT n gs) := (PG.or (pg_tup hc h hn hst) (pg_unl hc h hn hst)).imp fun v σ H Q q => by
  obtain ⟨F, env, d, env', hm, R0, a, hg, k⟩ := q
  unfold gT at hg
  split at hg
  · split at hg
    · rename_i hl
      obtain ⟨b, vs, rfl, hb, kb⟩ := (See.at a).tup
      exact .inl ⟨b, vs, rfl, hb, by rw [kb.length]; exact hl, F, env, _, env', hm, R0, kb, hg, k⟩
    · cases hg
  · split at hg
    · rename_i hl
      obtain ⟨b, vs, rfl, hb, kb⟩ := (See.at a).lst
      exact .inr ⟨b, vs, rfl, SqL.of hb, by rw [kb.length]; exact hl, F, env, _, env', hm, R0, kb, hg, k⟩
    · cases hg
  · cases hg
end

/-! ### assignments -/
def asS (f : FD) (g : FG) : FS := fun e => (f e).bind fun p => (g p.1 p.2).bind fun e' => some (.nx e')
def owS (i : Nat) (f : FD) : FS := fun e => (f e).bind fun p => if i < p.2.length then some (.nx (p.2.set i (.own p.1))) else none
section
variable {X : Cx} {m : Nat} {pos : Pos} {e : Expr}
theorem asg_use {Y : Lay} {ss : List Nat} {f : FD} {g : FG} (hms : ∀ i ∈ ss, m ≤ i) : ∀ D σ H, tS Y m (asS f g) D σ H → tAsg (tD Y f) (tG Y ss g) D σ H := fun D σ H q => by
  obtain ⟨F, env, out, hm, R0, hf, k⟩ := q
  obtain ⟨⟨d, e1⟩, h1, hf⟩ := Option.bind_eq_some_iff.mp hf
  obtain ⟨e2, h2, hf⟩ := Option.bind_eq_some_iff.mp hf
  cases hf
  exact ⟨F, env, d, e1, R0, h1, fun v H1 R1 kd s a => ⟨F, e1, d, e2, (fun i hi => by have := hms i hi; omega), R1, a, h2, fun σ2 R2 s2 _ => k σ2 H1 R2 (s.trans s2)⟩⟩
/-- name = value -/
theorem z_set (i : Nat) {x : Str} {f : FD} {pos' : Pos} (hN : X.N.Nodup) (he : PD X e f) (hm : m ≤ i := by decide) (hi : X.N[i]? = some x := by rfl) (hx : Loc X.env.scope x := by first | exact Or.inl rfl | exact Or.inr rfl) (hs : swapsWith e (some (.Name x pos')) pos.line X.env = pure false := by rfl) (hf : X.fn x = true ∨ X.env.scope.names.lookup x = some .local := by first | exact .inl rfl | exact .inr rfl) :
    PZ X m (.Assign [.Name x pos'] e pos) (asS f (gN i)) := (ps_set hN hi hx he hs hf).imp fun D σ H q => by
  obtain ⟨F, env, out, hm', R0, hf, k⟩ := q
  obtain ⟨⟨d, e1⟩, h1, hf⟩ := Option.bind_eq_some_iff.mp hf
  cases hf
  refine ⟨F, env, d, e1, R0, h1, fun v H1 R1 kd s a => ?_⟩
  obtain ⟨R2, s2⟩ := R1.set (by omega : F.ms.length ≤ i) a
  exact k _ H1 R2 (s.trans s2)
theorem own_fin {Y : Lay} {i : Nat} {f : FD} (hm : m ≤ i) : ∀ D σ H, tS Y m (owS i f) D σ H → tAsg (tF Y f) (gName i) D σ H := fun D σ H q => by
  obtain ⟨F, env, out, hm', R0, hf, k⟩ := q
  obtain ⟨⟨d, e1⟩, h1, hf⟩ := Option.bind_eq_some_iff.mp hf
  split at hf
  · rename_i hl
    cases hf
    refine ⟨F, env, d, e1, R0, h1, fun p o H1 hp R1 kd s a => ?_⟩
    obtain ⟨R2, s2⟩ := R1.setOwn (by omega : F.ms.length ≤ i) hl (R0.fresh0 hp) (fun z => R0.fresh hp (.inl z)) a
    exact k _ H1 R2 (s.trans s2)
  · cases hf
theorem z_own (i : Nat) {x : Str} {f : FD} {pos' : Pos} (hN : X.N.Nodup) (he : PF X e f) (hm : m ≤ i := by decide) (hi : X.N[i]? = some x := by rfl) (hx : Loc X.env.scope x := by first | exact Or.inl rfl | exact Or.inr rfl) (hs : swapsWith e (some (.Name x pos')) pos.line X.env = pure false := by rfl) (hf : X.fn x = true ∨ X.env.scope.names.lookup x = some .local := by first | exact .inl rfl | exact .inr rfl) :
    PZ X m (.Assign [.Name x pos'] e pos) (owS i f) := (ps_set hN hi hx he hs hf).imp (own_fin hm)
/-- targets = value, any form -/
theorem z_asg {ss : List Nat} {tg : Expr} {f : FD} {g : FG} (he : PD X e f) (hg : PGd X ss tg g) (hms : ∀ i ∈ ss, m ≤ i := by decide) (hs : swapsWithSole [tg] e pos.line X.env = pure false := by rfl) (hw : swappedStores [tg] e X.env = pure none := by rfl)
    (h1 : (assignEach [tg] X.env).map (·.2) = [assign tg X.env] := by rfl) : PZ X m (.Assign [tg] e pos) (asS f g) := (ps_asg he hg hs hw h1).imp (asg_use hms)
end
end DL

set_option Elab.async false
set_option linter.all false
set_option maxRecDepth 100000
set_option autoImplicit true
/-! DL5: what is walked; for, while, list comprehensions. -/
namespace DL
open PySem L2

/-! ### what is walked yields data -/
def Yields (Y : Lay) (J : It) (O1 : Addr → Prop) (H1 : Hp) (ds : List Dt) : Prop := ∀ (i : Nat) (O' : Addr → Prop) (H' : Hp), Stp O1 H1 O' H' → (∀ a, O' a → ∃ o, H' a = some o) →
  (∀ d, ds[i]? = some d → J.go i H' ∧ ∀ x H'', J.yld i H' x H'' → Same H' H'' ∧ At Y (hide O' H'') x d) ∧ (ds.length = i → J.stop i H')
abbrev FI := En → Option (List Dt × En)
def tI (Y : Lay) (f : FI) : TI := fun σ H R => ∃ F env ds env', Rel Y F σ H env ∧ f env = some (ds, env') ∧ ∀ J H', Rel Y F σ H' env' → Kd env env' → Stp (Ow F σ env) H (Ow F σ env') H' → Yields Y J (Ow F σ env') H' ds → (ds.length ≤ sizeLine) → R J H'
abbrev PId (X : Cx) (tg iter : Expr) (f : FI) : Prop := PI X tg iter (tI X.lay f)
/-- a reading, knowing how long lists and tuples are -/
def Bd (K : PySem.W.Frag) (H : Hp) : Prop := ∀ a xs, (SqL K H a xs ∨ SqT K H a xs) → xs.length ≤ sizeLine
theorem bd_of {X : Cx} {pins : List (Addr × Obj)} {σ : St} {H : Hp} {s : Shared} (I : L2.Inv X pins σ H s) : Bd X.K H := fun a xs h => by
  rcases h with h | h
  · exact (I.list h).choose_spec.2.2
  · exact (I.tuple h).choose_spec.2.2
theorem _root_.L2.PE.bd {X : Cx} {e : Expr} {t : TE} (h : PE X e t) : PE X e (fun σ H Q => t σ H fun v H' => Bd X.K H' → Q v H') := ⟨fun pins s σ H Q I q =>
  thn (h.run pins s σ H _ I q) fun u s' ⟨v, H', I', r, q'⟩ => ⟨v, H', I', r, q' (bd_of I')⟩⟩
theorem _root_.L2.PA.bd {X : Cx} {e : List Expr} {t : TA} (h : PA X e t) : PA X e (fun σ H Q => t σ H fun v H' => Bd X.K H' → Q v H') := ⟨fun pos pins s σ H Q I q =>
  thn (h.run pos pins s σ H _ I q) fun u s' ⟨v, H', I', r, q'⟩ => ⟨v, H', I', r, q' (bd_of I')⟩⟩
theorem _root_.L2.PI.or {X : Cx} {tg it : Expr} {t t' : TI} (h : PI X tg it t) (k : PI X tg it t') : PI X tg it (fun σ H R => t σ H R ∨ t' σ H R) := ⟨fun pins s σ H R I q => q.elim (h.run pins s σ H R I) (k.run pins s σ H R I)⟩
def seqD : Dt → Option (List Dt)
  | .list ds => some ds
  | .tuple ds => some ds
  | _ => none
theorem seqD_some {d : Dt} {ds : List Dt} (h : seqD d = some ds) : d = .list ds ∨ d = .tuple ds := by
  cases d with
  | list xs => cases h; exact .inl rfl
  | tuple xs => cases h; exact .inr rfl
  | none => cases h
  | bool _ => cases h
  | int _ => cases h
  | str _ => cases h
  | dict _ => cases h
def seqI (f : FD) : FI := fun e => (f e).bind fun p => (seqD p.1).bind fun ds => some (ds, p.2)
section
variable {X : Cx} {Y : Lay} {tg l : Expr}
theorem yl_list {K : PySem.W.Frag} {O1 : Addr → Prop} {H1 : Hp} {a : Addr} {vs : List V} {ds : List Dt} (ha : hide O1 H1 a = some (.lst vs)) (k : Ats Y (hide O1 H1) vs ds) : Yields Y (Itl K a) O1 H1 ds := by
  intro i O' H' st _
  have h' : H' a = some (.lst vs) := (st a _ (hide_some.mp ha).1 (hide_some.mp ha).2).2
  have uniq : ∀ xs, SqL K H' a xs → xs[i]? = vs[i]? → True := fun _ _ _ => trivial
  refine ⟨fun d hd => ?_, fun hl => ⟨vs, SqL.of h', by rw [k.length]; exact Nat.le_of_eq hl⟩⟩
  obtain ⟨v, hv, av⟩ := k.get hd
  refine ⟨⟨vs, v, SqL.of h', hv⟩, fun x H'' y => ?_⟩
  obtain ⟨rfl, y⟩ := y
  have e := y vs (SqL.of h')
  rw [hv] at e
  cases e
  exact ⟨Same.refl _, av.mono st.same⟩
theorem yl_tup {K : PySem.W.Frag} {O1 : Addr → Prop} {H1 : Hp} {a : Addr} {vs : List V} {ds : List Dt} (ha : SqT K (hide O1 H1) a vs) (k : Ats Y (hide O1 H1) vs ds) : Yields Y (Itt K a) O1 H1 ds := by
  intro i O' H' st _
  have h' : SqT K H' a vs := Same.seqT (hide_le _ _) (Same.seqT st.same ha)
  refine ⟨fun d hd => ?_, fun hl => ⟨vs, h', by rw [k.length]; exact Nat.le_of_eq hl⟩⟩
  obtain ⟨v, hv, av⟩ := k.get hd
  refine ⟨⟨vs, v, h', hv⟩, fun x H'' y => ?_⟩
  obtain ⟨rfl, y⟩ := y
  have e := y vs h'
  rw [hv] at e
  cases e
  exact ⟨Same.refl _, av.mono st.same⟩
/-- a list or a tuple -/
theorem i_seq {f : FD} (h : PD X l f) : PId X tg l (seqI f) := (PI.or (pi_list h.bd) (pi_tup h.bd)).imp fun σ H R q => by
  obtain ⟨F, env, ds, env', R0, hf, k⟩ := q
  obtain ⟨⟨d, e1⟩, h1, hf⟩ := Option.bind_eq_some_iff.mp hf
  obtain ⟨ds', h2, hf⟩ := Option.bind_eq_some_iff.mp hf
  cases hf
  have h2' : seqD d = some ds := h2
  rcases seqD_some h2' with rfl | rfl
  · refine .inl ⟨F, env, _, e1, R0, h1, fun v H1 R1 kd s a bd => ?_⟩
    obtain ⟨b, vs, rfl, h', _⟩ := (See.at a).lst
    cases a with
    | lst ha ka => exact ⟨_, rfl, ⟨_, SqL.of h'⟩, k _ H1 R1 kd s (yl_list ha ka) (by rw [← ka.length]; exact bd _ _ (.inl (SqL.of (hide_some.mp ha).2)))⟩
  · refine .inr ⟨F, env, _, e1, R0, h1, fun v H1 R1 kd s a bd => ?_⟩
    obtain ⟨b, vs, rfl, h', _⟩ := (See.at a).tup
    cases a with
    | tup ha ka => exact ⟨_, rfl, ⟨_, h'⟩, k _ H1 R1 kd s (yl_tup ha ka) (by rw [← ka.length]; exact bd _ _ (.inr (Same.seqT (hide_le _ _) ha)))⟩
/-! range -/
def rngD (lo : Int) (n : Nat) : List Dt := (List.range n).map fun (i : Nat) => .int (lo + (i : Int))
theorem rngD_get {lo : Int} {n i : Nat} {d : Dt} (h : (rngD lo n)[i]? = some d) : i < n ∧ d = .int (lo + i) := by
  unfold rngD at h
  rw [List.getElem?_map] at h
  obtain ⟨j, h1, h2⟩ := Option.map_eq_some_iff.mp h
  obtain ⟨h3, h4⟩ := List.getElem?_eq_some_iff.mp h1
  simp at h3 h4
  subst h4
  exact ⟨h3, h2.symm⟩
theorem rngD_len {lo : Int} {n : Nat} : (rngD lo n).length = n := by unfold rngD; simp
theorem yl_rng {O1 : Addr → Prop} {H1 : Hp} {lo : Int} {n : Nat} : Yields Y (Itr lo n) O1 H1 (rngD lo n) := by
  intro i O' H' st _
  refine ⟨fun d hd => ?_, fun hl => by rw [rngD_len] at hl; exact Nat.le_of_eq hl⟩
  obtain ⟨h1, rfl⟩ := rngD_get hd
  refine ⟨h1, fun x H'' y => ?_⟩
  obtain ⟨rfl, rfl⟩ := y
  exact ⟨Same.refl _, .int _⟩
def rng1I (f : FA) : FI := fun e => (f e).bind fun p => match p.1 with
  | [.d (.int n)] => if n ≤ 1000000 ∧ -1000000 ≤ n then some (rngD 0 n.toNat, p.2) else none
  | _ => none
def rng2I (f : FA) : FI := fun e => (f e).bind fun p => match p.1 with
  | [.d (.int i), .d (.int j)] => if i ≤ 1000000 ∧ -1000000 ≤ i ∧ j ≤ 1000000 ∧ -1000000 ≤ j then some (rngD i (j - i).toNat, p.2) else none
  | _ => none
theorem i_rng1 {a : Expr} {f : FA} {p pos : Pos} (hm : X.mg "range" = none) (ha : PAs X [a] f) (hg : Gl X "range" := by rfl) (hs : starEach [a] X.env = [(false, eval a X.env)] := by rfl) : PId X tg (.Call (.Name "range" p) [a] [] pos) (rng1I f) := (pi_range1 hg hm ha hs).imp fun σ H R q => by
  obtain ⟨F, env, ds, env', R0, hf, k⟩ := q
  obtain ⟨⟨rs, e1⟩, h1, hf⟩ := Option.bind_eq_some_iff.mp hf
  refine ⟨F, env, rs, e1, R0, h1, fun vs H1 R1 kd s a => ?_⟩
  split at hf
  · rename_i n hn
    simp only at hn
    subst hn
    split at hf
    · rename_i hz
      cases hf
      cases a with
      | cons a as =>
        cases as
        cases a
        refine ⟨n, rfl, by omega, by omega, k _ H1 R1 kd s yl_rng ?_⟩
        rw [rngD_len, sizeLine_eq]
        omega
    · cases hf
  · cases hf
theorem i_rng2 {a b : Expr} {f : FA} {p pos : Pos} (hm : X.mg "range" = none) (ha : PAs X [a, b] f) (hg : Gl X "range" := by rfl) (hs : starEach [a, b] X.env = [(false, eval a X.env), (false, eval b X.env)] := by rfl) (hs2 : starEach [b] X.env = [(false, eval b X.env)] := by rfl) : PId X tg (.Call (.Name "range" p) [a, b] [] pos) (rng2I f) := (pi_range2 hg hm ha hs hs2).imp fun σ H R q => by
  obtain ⟨F, env, ds, env', R0, hf, k⟩ := q
  obtain ⟨⟨rs, e1⟩, h1, hf⟩ := Option.bind_eq_some_iff.mp hf
  refine ⟨F, env, rs, e1, R0, h1, fun vs H1 R1 kd s a => ?_⟩
  split at hf
  · rename_i i j hn
    simp only at hn
    subst hn
    split at hf
    · rename_i hz
      cases hf
      cases a with
      | cons a as =>
        cases as with
        | cons a' as =>
          cases as
          cases a
          cases a'
          exact ⟨i, j, rfl, by omega, k _ H1 R1 kd s yl_rng (by rw [rngD_len, sizeLine_eq] <;> omega)⟩
    · cases hf
  · cases hf
/-! zip of two lists, of two tuples; enumerate of a list -/
def zipD : List Dt → List Dt → List Dt
  | a :: as, b :: bs => .tuple [a, b] :: zipD as bs
  | _, _ => []
theorem zipD_len : ∀ (as bs : List Dt), (zipD as bs).length = min as.length bs.length
  | [], _ => by simp [zipD]
  | _ :: _, [] => by simp [zipD]
  | a :: as, b :: bs => by simp [zipD, zipD_len as bs]
theorem zipD_get : ∀ {as bs : List Dt} {i : Nat} {d : Dt}, (zipD as bs)[i]? = some d → ∃ a b, as[i]? = some a ∧ bs[i]? = some b ∧ d = .tuple [a, b]
  | [], _, _, _, h => by simp [zipD] at h
  | _ :: _, [], _, _, h => by simp [zipD] at h
  | a :: as, b :: bs, 0, d, h => by simp [zipD] at h; exact ⟨a, b, rfl, rfl, h.symm⟩
  | a :: as, b :: bs, i + 1, d, h => by
    obtain ⟨x, y, h1, h2, h3⟩ := zipD_get (as := as) (bs := bs) (i := i) (d := d) (by simpa [zipD] using h)
    exact ⟨x, y, by simpa using h1, by simpa using h2, h3⟩
def zipI (f : FA) : FI := fun e => (f e).bind fun p => match p.1 with
  | [.d (.list a), .d (.list b)] => some (zipD a b, p.2)
  | [.d (.tuple a), .d (.tuple b)] => some (zipD a b, p.2)
  | _ => none
theorem pair_at {O' : Addr → Prop} {H' : Hp} {T : Addr} {x y : V} {a b : Dt} (hO : ∀ a, O' a → ∃ o, H' a = some o) (hT : H' T = none) (ax : At Y (hide O' H') x a) (ay : At Y (hide O' H') y b) : Same H' (upd H' T (.tup [x, y])) ∧ At Y (hide O' (upd H' T (.tup [x, y]))) (.ref T) (.tuple [a, b]) :=
  ⟨same_upd hT, new_tup hO hT (.cons ax (.cons ay .nil))⟩
theorem i_zip {e e2 : Expr} {f : FA} {p pos tpos : Pos} {elts : List Expr} {kk : Nat} (hm : X.mg "zip" = none) (ha : PAs X [e, e2] f) (hg : Gl X "zip" := by rfl)
    (hs : starEach [e, e2] X.env = (false, eval e X.env) :: starEach [e2] X.env := by rfl) (hpl : (backTo pos (starEach [e2] X.env)).any (·.1) = false := by rfl) :
    PId X (.Tuple elts kk tpos) (.Call (.Name "zip" p) [e, e2] [] pos) (zipI f) := (RZ.pi_zipA hg hm ha.bd hs hpl).imp fun σ H R q => by
  obtain ⟨F, env, ds, env', R0, hf, k⟩ := q
  obtain ⟨⟨rs, e1⟩, h1, hf⟩ := Option.bind_eq_some_iff.mp hf
  refine ⟨F, env, rs, e1, R0, h1, fun vs H1 R1 kd s a bd => ?_⟩
  split at hf
  · rename_i as bs hn
    simp only at hn
    subst hn
    cases hf
    cases a with
    | cons a as' =>
      cases as' with
      | cons a' as' =>
        cases as'
        cases a with
        | lst ha ka =>
          cases a' with
          | lst hb kb =>
            have ha' := (hide_some.mp ha).2
            have hb' := (hide_some.mp hb).2
            refine ⟨_, _, _, _, rfl, .inl ⟨SqL.of ha', SqL.of hb', k _ H1 R1 kd s ?_ ?_⟩⟩
            · intro i O' H' st hO
              have g1 := (st _ _ (hide_some.mp ha).1 ha').2
              have g2 := (st _ _ (hide_some.mp hb).1 hb').2
              refine ⟨fun d hd => ?_, fun hl => ⟨_, _, SqL.of g1, SqL.of g2, ?_⟩⟩
              · obtain ⟨x, y, z1, z2, rfl⟩ := zipD_get hd
                obtain ⟨v, hv, av⟩ := ka.get z1
                obtain ⟨u, hu, au⟩ := kb.get z2
                refine ⟨⟨_, _, v, u, SqL.of g1, SqL.of g2, hv, hu⟩, fun w H'' yy => ?_⟩
                obtain ⟨T, x', y', rfl, hT, rfl, w1, w2⟩ := yy
                have q1 := w1 _ (SqL.of g1)
                have q2 := w2 _ (SqL.of g2)
                rw [hv] at q1
                rw [hu] at q2
                cases q1
                cases q2
                exact pair_at hO hT (av.mono st.same) (au.mono st.same)
              · rw [zipD_len] at hl
                rw [ka.length, kb.length]
                omega
            · rw [zipD_len, ← ka.length]
              have := bd _ _ (.inl (SqL.of ha'))
              omega
  · rename_i as bs hn
    simp only at hn
    subst hn
    cases hf
    cases a with
    | cons a as' =>
      cases as' with
      | cons a' as' =>
        cases as'
        cases a with
        | tup ha ka =>
          cases a' with
          | tup hb kb =>
            have ha' := Same.seqT (hide_le _ _) ha
            have hb' := Same.seqT (hide_le _ _) hb
            refine ⟨_, _, _, _, rfl, .inr ⟨ha', hb', k _ H1 R1 kd s ?_ ?_⟩⟩
            · intro i O' H' st hO
              have g1 := Same.seqT (hide_le _ _) (Same.seqT st.same ha)
              have g2 := Same.seqT (hide_le _ _) (Same.seqT st.same hb)
              refine ⟨fun d hd => ?_, fun hl => ⟨_, _, g1, g2, ?_⟩⟩
              · obtain ⟨x, y, z1, z2, rfl⟩ := zipD_get hd
                obtain ⟨v, hv, av⟩ := ka.get z1
                obtain ⟨u, hu, au⟩ := kb.get z2
                refine ⟨⟨_, _, v, u, g1, g2, hv, hu⟩, fun w H'' yy => ?_⟩
                obtain ⟨T, x', y', rfl, hT, rfl, w1, w2⟩ := yy
                have q1 := w1 _ g1
                have q2 := w2 _ g2
                rw [hv] at q1
                rw [hu] at q2
                cases q1
                cases q2
                exact pair_at hO hT (av.mono st.same) (au.mono st.same)
              · rw [zipD_len] at hl
                rw [ka.length, kb.length]
                omega
            · rw [zipD_len, ← ka.length]
              have := bd _ _ (.inr ha')
              omega
  · cases hf
end

/-! ### for -/
def forF (g : FG) (b : FS) : List Dt → FS
  | [], e => some (.nx e)
  | d :: ds, e => (g d e).bind fun e1 => (b e1).bind fun o => match o with
    | .nx e2 => forF g b ds e2
    | .ct e2 => forF g b ds e2
    | .bk e2 => some (.nx e2)
    | .rt d e2 => some (.rt d e2)
def frS (f : FI) (g : FG) (b : FS) : FS := fun e => (f e).bind fun p => forF g b p.1 p.2
section
variable {X : Cx} {Y : Lay} {m : Nat} {tg iter : Expr} {pos : Pos} {body : List Stmt}
theorem for_use {ss : List Nat} {f : FI} {g : FG} {b : FS} (hms : ∀ i ∈ ss, m ≤ i) : ∀ D σ H, tS Y m (frS f g b) D σ H → tFor (tI Y f) (tG Y ss g) (tS Y m b) D σ H := fun D σ H q => by
  obtain ⟨F, env, out, hm, R0, hf, k⟩ := q
  obtain ⟨⟨ds, e1⟩, h1, hf⟩ := Option.bind_eq_some_iff.mp hf
  refine ⟨F, env, ds, e1, R0, h1, fun J H1 R1 kd s1 yl _ => ?_⟩
  refine ⟨fun i mm σ' H' => mm = ds.length - i ∧ i ≤ ds.length ∧ ∃ e, Rel Y F σ' H' e ∧ Stp (Ow F σ e1) H1 (Ow F σ' e) H' ∧ forF g b (ds.drop i) e = some out, ⟨_, rfl, Nat.zero_le _, e1, R1, Stp.refl, by simpa using hf⟩, ?_⟩
  rintro i mm σ' H' ⟨rfl, hi, e, R2, s2, hf2⟩
  have yi := yl i _ _ s2 (fun a h => R2.ow_there h)
  by_cases hlt : i < ds.length
  · have e0 : ds.drop i = ds[i] :: ds.drop (i + 1) := List.drop_eq_getElem_cons hlt
    rw [e0] at hf2
    obtain ⟨e2, h2, hf2⟩ := Option.bind_eq_some_iff.mp hf2
    obtain ⟨o, h3, hf2⟩ := Option.bind_eq_some_iff.mp hf2
    obtain ⟨hgo, hy⟩ := yi.1 ds[i] (by simp [hlt])
    refine .inr ⟨hgo, fun σ3 H3 => ∃ e, Rel Y F σ3 H3 e ∧ Stp (Ow F σ e1) H1 (Ow F σ3 e) H3 ∧ forF g b (ds.drop (i + 1)) e = some out, fun σ3 H3 ⟨e, z1, z2, z3⟩ => ⟨ds.length - (i + 1), by omega, rfl, hlt, e, z1, z2, z3⟩, fun x H3 y => ?_⟩
    obtain ⟨sm, ax⟩ := hy x H3 y
    have R3 := R2.same sm
    have s3 := s2.trans (Stp.of sm)
    refine ⟨F, e, ds[i], e2, (fun i hi => by have := hms i hi; omega), R3, ax, h2, fun σ4 R4 s4 _ => ?_⟩
    have s5 := s3.trans s4
    refine ⟨F, e2, o, hm, R4, h3, ?_⟩
    cases o with
    | nx e3 => exact fun σ5 H5 R5 s6 => ⟨e3, R5, s5.trans s6, hf2⟩
    | ct e3 => exact fun σ5 H5 R5 s6 => ⟨e3, R5, s5.trans s6, hf2⟩
    | bk e3 =>
      cases hf2
      exact fun σ5 H5 R5 s6 => k σ5 H5 R5 ((s1.trans s5).trans s6)
    | rt d e3 =>
      cases hf2
      exact k
  · have e0 : ds.drop i = [] := List.drop_eq_nil_of_le (by omega)
    rw [e0] at hf2
    cases hf2
    exact .inl ⟨yi.2 (by omega), k σ' H' R2 (s1.trans s2)⟩
theorem z_for {ss : List Nat} {f : FI} {g : FG} {b : FS} (hp : PassesOwn (model X.prog X.w) X.A X.env X.xe) (hc : X.calm = true) (hi : PId X tg iter f) (hg : PGd X ss tg g) (hb : PZs X m body b) (hms : ∀ i ∈ ss, m ≤ i := by decide)
    (hs : ∀ x, foldedSetIterable iter X.env x = pure x := by intro _; rfl) : PZ X m (.For tg iter body [] pos) (frS f g b) := (ps_for hp hc hi hg hb hs).imp (for_use hms)

/-! ### while -/
def whN (t : FT) (b : FS) : Nat → FS
  | 0, _ => none
  | n + 1, e => (t e).bind fun p => if p.1 = true then (b p.2).bind fun o => match o with
      | .nx e2 => whN t b n e2
      | .ct e2 => whN t b n e2
      | .bk e2 => some (.nx e2)
      | .rt d e2 => some (.rt d e2)
    else some (.nx p.2)
theorem whN_more {t : FT} {b : FS} : ∀ {n : Nat} {e : En} {o : Out}, whN t b n e = some o → ∀ k, whN t b (n + k) e = some o
  | 0, _, _, h, _ => by cases h
  | n + 1, e, o, h, k => by
    rw [Nat.succ_add]
    unfold whN at h ⊢
    obtain ⟨⟨c, e1⟩, h1, h⟩ := Option.bind_eq_some_iff.mp h
    rw [h1]
    show (if c = true then _ else _) = _
    cases c with
    | false => exact h
    | true =>
      simp only [if_true] at h ⊢
      obtain ⟨o1, h2, h⟩ := Option.bind_eq_some_iff.mp h
      rw [h2]
      cases o1 with
      | nx e2 => exact whN_more (n := n) h k
      | ct e2 => exact whN_more (n := n) h k
      | bk e2 => exact h
      | rt d e2 => exact h
open Classical in
noncomputable def whS (t : FT) (b : FS) : FS := fun e => if h : ∃ n o, whN t b n e = some o then some (h.choose_spec.choose) else none
theorem whS_of {t : FT} {b : FS} {n : Nat} {e : En} {o : Out} (h : whN t b n e = some o) : whS t b e = some o := by
  have hx : ∃ n o, whN t b n e = some o := ⟨n, o, h⟩
  unfold whS
  rw [dif_pos hx]
  have h2 := hx.choose_spec.choose_spec
  have h3 := whN_more h hx.choose
  have h4 := whN_more h2 n
  rw [Nat.add_comm] at h4
  rw [h3] at h4
  rw [Option.some.inj h4]
theorem whS_some {t : FT} {b : FS} {e : En} {o : Out} (h : whS t b e = some o) : ∃ n, whN t b n e = some o := by
  unfold whS at h
  split at h
  · rename_i hx
    cases h
    exact ⟨_, hx.choose_spec.choose_spec⟩
  · cases h
theorem while_use {t : FT} {b : FS} : ∀ D σ H, tS Y m (whS t b) D σ H → tWhile (tT Y t) (tS Y m b) D σ H := fun D σ H q => by
  obtain ⟨F, env, out, hm, R0, hf, k⟩ := q
  obtain ⟨n, hn⟩ := whS_some hf
  refine ⟨fun n σ' H' => ∃ e, Rel Y F σ' H' e ∧ Stp (Ow F σ env) H (Ow F σ' e) H' ∧ whN t b n e = some out, ⟨n, env, R0, Stp.refl, hn⟩, ?_⟩
  rintro n σ' H' ⟨e, R1, s1, h⟩
  cases n with
  | zero => cases h
  | succ n =>
    unfold whN at h
    obtain ⟨⟨c, e1⟩, h1, h⟩ := Option.bind_eq_some_iff.mp h
    refine ⟨F, e, c, e1, R1, h1, fun H2 R2 kd s2 => ?_⟩
    have s3 := s1.trans s2
    cases c with
    | false =>
      cases h
      exact k σ' H2 R2 s3
    | true =>
      simp only [if_true] at h ⊢
      obtain ⟨o, h2, h⟩ := Option.bind_eq_some_iff.mp h
      refine ⟨fun σ3 H3 => ∃ e, Rel Y F σ3 H3 e ∧ Stp (Ow F σ env) H (Ow F σ3 e) H3 ∧ whN t b n e = some out, fun σ3 H3 z => ⟨n, Nat.lt_succ_self _, z⟩, F, e1, o, hm, R2, h2, ?_⟩
      cases o with
      | nx e3 => exact fun σ5 H5 R5 s6 => ⟨e3, R5, s3.trans s6, h⟩
      | ct e3 => exact fun σ5 H5 R5 s6 => ⟨e3, R5, s3.trans s6, h⟩
      | bk e3 =>
        cases h
        exact fun σ5 H5 R5 s6 => k σ5 H5 R5 (s3.trans s6)
      | rt d e3 =>
        cases h
        exact k
theorem z_while {c : Expr} {t : FT} {b : FS} (hp : PassesOwn (model X.prog X.w) X.A X.env X.xe) (hc : PB X c t) (hb : PZs X m body b) : PZ X m (.While c body [] pos) (whS t b) := (ps_while hp hc hb).imp while_use
end
end DL

set_option Elab.async false
set_option linter.all false
set_option maxRecDepth 100000
set_option autoImplicit true
/-! DL6: list comprehensions. -/
namespace DL
open PySem L2

/-! ### the names of a comprehension: forgotten within, as before behind -/
def wipeE (e : En) : List Nat → En
  | [] => e
  | v :: vs => (wipeE e vs).set v .un
def noOwn (e : En) (vs : List Nat) : Bool := vs.all fun i => match e[i]? with
  | some (.own _) => false
  | _ => true
/-- e2, with e1's names at vs -/
def backE (e1 e2 : En) : List Nat → En
  | [] => e2
  | v :: vs => match e1[v]? with
    | some c => (backE e1 e2 vs).set v c
    | none => backE e1 e2 vs
theorem wipeE_len (e : En) : ∀ vs, (wipeE e vs).length = e.length
  | [] => rfl
  | v :: vs => by unfold wipeE; rw [List.length_set, wipeE_len e vs]
theorem wipeE_out {e : En} {i : Nat} : ∀ {vs : List Nat}, i ∉ vs → (wipeE e vs)[i]? = e[i]?
  | [], _ => rfl
  | v :: vs, h => by
    unfold wipeE
    rw [List.mem_cons, not_or] at h
    rw [List.getElem?_set_ne (fun z => h.1 z.symm), wipeE_out h.2]
theorem wipeE_in {e : En} {i : Nat} {c : Cell} : ∀ {vs : List Nat}, i ∈ vs → (wipeE e vs)[i]? = some c → c = .un
  | v :: vs, h, q => by
    unfold wipeE at q
    by_cases hv : v = i
    · subst hv
      rw [List.getElem?_set] at q
      simp only [if_pos] at q
      split at q
      · cases q; rfl
      · cases q
    · rw [List.getElem?_set_ne hv] at q
      exact wipeE_in ((List.mem_cons.mp h).elim (fun z => absurd z.symm hv) id) q
theorem backE_len (e1 e2 : En) : ∀ vs, (backE e1 e2 vs).length = e2.length
  | [] => rfl
  | v :: vs => by
    unfold backE
    split
    · rw [List.length_set, backE_len e1 e2 vs]
    · exact backE_len e1 e2 vs
theorem backE_out {e1 e2 : En} {i : Nat} : ∀ {vs : List Nat}, i ∉ vs → (backE e1 e2 vs)[i]? = e2[i]?
  | [], _ => rfl
  | v :: vs, h => by
    unfold backE
    rw [List.mem_cons, not_or] at h
    split
    · rw [List.getElem?_set_ne (fun z => h.1 z.symm), backE_out h.2]
    · exact backE_out h.2
theorem backE_in {e1 e2 : En} {i : Nat} (hl : e1.length = e2.length) : ∀ {vs : List Nat}, i ∈ vs → (backE e1 e2 vs)[i]? = e1[i]?
  | v :: vs, h => by
    unfold backE
    by_cases hv : v = i
    · subst hv
      split
      · rename_i c hc
        rw [List.getElem?_set, backE_len, ← hl, hc]
        simp [(List.getElem?_eq_some_iff.mp hc).1]
      · rename_i hc
        have hz : e1.length ≤ v := List.getElem?_eq_none_iff.mp hc
        rw [hc, List.getElem?_eq_none_iff, backE_len]
        omega
    · have h' : i ∈ vs := (List.mem_cons.mp h).elim (fun z => absurd z.symm hv) id
      split
      · rw [List.getElem?_set_ne hv, backE_in hl h']
      · exact backE_in hl h'
theorem noOwn_at {e : En} {vs : List Nat} (h : noOwn e vs = true) {i : Nat} (hi : i ∈ vs) {d : Dt} : e[i]? ≠ some (.own d) := fun z => by
  have := List.all_eq_true.mp h i hi
  rw [z] at this
  cases this
/-- as Kd, outside vs -/
def KdX (vs : List Nat) (env env' : En) : Prop := ∀ i : Nat, i ∉ vs → env'[i]? = env[i]? ∨ ∃ d d', env[i]? = some (Cell.own d) ∧ env'[i]? = some (Cell.own d')
theorem KdX.trans {vs : List Nat} {a b c : En} (h : KdX vs a b) (k : KdX vs b c) : KdX vs a c := fun i hi => by
  rcases h i hi with h | ⟨d, d', h1, h2⟩
  · rcases k i hi with k | ⟨e, e', k1, k2⟩
    · exact .inl (k.trans h)
    · exact .inr ⟨e, e', by rw [← h]; exact k1, k2⟩
  · rcases k i hi with k | ⟨e, e', k1, k2⟩
    · exact .inr ⟨d, d', h1, by rw [k]; exact h2⟩
    · exact .inr ⟨d, e', h1, k2⟩
theorem Kd.x {vs : List Nat} {a b : En} (h : Kd a b) : KdX vs a b := fun i _ => h i
theorem KdX.wipe {vs : List Nat} {a b : En} (h : KdX vs a b) : KdX vs a (wipeE b vs) := fun i hi => by rw [wipeE_out hi]; exact h i hi
theorem KdX.of_wipe {vs : List Nat} (a : En) : KdX vs a (wipeE a vs) := fun i hi => .inl (wipeE_out hi)

section
variable {Y : Lay} {F : Fr} {σ : St} {H H' : Hp} {env env' : En} {vs : List Nat}
theorem ow_wipe (h : noOwn env vs = true) : Ow F (wipe σ vs) (wipeE env vs) = Ow F σ env := by
  funext a
  apply propext
  constructor
  · rintro (z | ⟨i, d, h1, h2⟩)
    · exact .inl z
    · by_cases hi : i ∈ vs
      · exact absurd (wipeE_in hi h1) (by simp)
      · rw [wipeE_out hi] at h1
        rw [wipe_out hi] at h2
        exact .inr ⟨i, d, h1, h2⟩
  · rintro (z | ⟨i, d, h1, h2⟩)
    · exact .inl z
    · by_cases hi : i ∈ vs
      · exact absurd h1 (noOwn_at h hi)
      · exact .inr ⟨i, d, by rw [wipeE_out hi]; exact h1, by rw [wipe_out hi]; exact h2⟩
theorem Rel.wipe (R0 : Rel Y F σ H env) (h : noOwn env vs = true) : Rel Y F (wipe σ vs) H (wipeE env vs) := by
  have no : ∀ {i : Nat} {d : Dt}, (wipeE env vs)[i]? = some (.own d) → i ∉ vs := fun {i d} e hi => absurd (wipeE_in hi e) (by simp)
  refine ⟨R0.dom, R0.msO, by rw [wipe_length, wipeE_len]; exact R0.len, R0.keep, fun i d e => ?_, fun i j d d' a h1 h2 h3 h4 => ?_, fun i d e => ?_, fun j a e => ?_⟩
  · have hi := no e
    rw [wipeE_out hi] at e
    rw [ow_wipe h, wipe_out hi]
    exact R0.own i d e
  · have hi := no h1
    have hj := no h2
    rw [wipeE_out hi] at h1
    rw [wipeE_out hj] at h2
    rw [wipe_out hi] at h3
    rw [wipe_out hj] at h4
    exact R0.inj i j d d' a h1 h2 h3 h4
  · by_cases hi : i ∈ vs
    · exact absurd (wipeE_in hi e) (by simp)
    · rw [wipeE_out hi] at e
      rw [ow_wipe h, wipe_out hi]
      exact R0.dat i d e
  · obtain ⟨h1, d, h2⟩ := R0.msAt j a e
    have hj : j ∉ vs := fun z => absurd h2 (noOwn_at h z)
    exact ⟨by rw [wipe_out hj]; exact h1, d, by rw [wipeE_out hj]; exact h2⟩
/-- behind: the names as they were -/
theorem Rel.back {O1 : Addr → Prop} {H1 : Hp} {e1 ef : En} (R0 : Rel Y F (L2.wipe σ vs) H ef) (hl : e1.length = ef.length) (h1 : noOwn e1 vs = true) (he : noOwn ef vs = true) (old : ∀ (i : Nat) d, i ∈ vs → e1[i]? = some (Cell.dat d) → ∃ v, σ[i]? = some (some v) ∧ At Y (hide O1 H1) v d)
    (st : Stp O1 H1 (Ow F (L2.wipe σ vs) ef) H) : Rel Y F σ H (backE e1 ef vs) ∧ Ow F σ (backE e1 ef vs) = Ow F (L2.wipe σ vs) ef := by
  have ow : Ow F σ (backE e1 ef vs) = Ow F (L2.wipe σ vs) ef := by
    funext a
    apply propext
    constructor
    · rintro (z | ⟨i, d, g1, g2⟩)
      · exact .inl z
      · by_cases hi : i ∈ vs
        · rw [backE_in hl hi] at g1
          exact absurd g1 (noOwn_at h1 hi)
        · rw [backE_out hi] at g1
          exact .inr ⟨i, d, g1, by rw [wipe_out hi]; exact g2⟩
    · rintro (z | ⟨i, d, g1, g2⟩)
      · exact .inl z
      · by_cases hi : i ∈ vs
        · exact absurd g1 (noOwn_at he hi)
        · rw [wipe_out hi] at g2
          exact .inr ⟨i, d, by rw [backE_out hi]; exact g1, g2⟩
  have no : ∀ {i : Nat} {d : Dt}, (backE e1 ef vs)[i]? = some (.own d) → i ∉ vs := fun {i d} e hi => by
    rw [backE_in hl hi] at e
    exact absurd e (noOwn_at h1 hi)
  refine ⟨⟨R0.dom, R0.msO, by rw [backE_len, ← R0.len, wipe_length], R0.keep, fun i d e => ?_, fun i j d d' a g1 g2 g3 g4 => ?_, fun i d e => ?_, fun j a e => ?_⟩, ow⟩
  · have hi := no e
    rw [backE_out hi] at e
    obtain ⟨a, q1, q2⟩ := R0.own i d e
    rw [wipe_out hi] at q1
    rw [ow]
    exact ⟨a, q1, q2⟩
  · have hi := no g1
    have hj := no g2
    rw [backE_out hi] at g1
    rw [backE_out hj] at g2
    exact R0.inj i j d d' a g1 g2 (by rw [wipe_out hi]; exact g3) (by rw [wipe_out hj]; exact g4)
  · rw [ow]
    by_cases hi : i ∈ vs
    · rw [backE_in hl hi] at e
      obtain ⟨v, q1, q2⟩ := old i d hi e
      exact ⟨v, q1, q2.mono st.same⟩
    · rw [backE_out hi] at e
      obtain ⟨v, q1, q2⟩ := R0.dat i d e
      rw [wipe_out hi] at q1
      exact ⟨v, q1, q2⟩
  · obtain ⟨g1, d, g2⟩ := R0.msAt j a e
    have hj : j ∉ vs := fun z => absurd g2 (noOwn_at he z)
    exact ⟨by rw [← wipe_out (σ := σ) hj]; exact g1, d, by rw [backE_out hj]; exact g2⟩
/-- the callers' object p is another one now -/
theorem Rel.replus {p : Addr} {o o' : HO} (R1 : Rel Y (F.plus p o) σ H env) (no : ¬ F.O0 p) (h0 : F.H0 p = none) : Rel Y (F.plus p o') σ (upd H p o') env ∧ Stp (Ow (F.plus p o) σ env) H (Ow (F.plus p o') σ env) (upd H p o') := by
  have ow : Ow (F.plus p o') σ env = Ow (F.plus p o) σ env := rfl
  have st : Stp (Ow (F.plus p o) σ env) H (Ow (F.plus p o') σ env) (upd H p o') := fun a u n e => ⟨n, by rw [upd_ne (fun (z : a = p) => n (.inl (.inl z)))]; exact e⟩
  have np : ∀ (j : Nat) e b, env[j]? = some (.own e) → σ[j]? = some (some (V.ref b)) → b ≠ p := fun j e b g1 g2 z => R1.own_no g1 g2 (.inl z)
  refine ⟨⟨fun a z => ?_, R1.msO, R1.len, fun a u h n => ?_, fun i d h => ?_, R1.inj, fun i d h => ?_, R1.msAt⟩, st⟩
  · show ∃ u, upd F.H0 p o' a = some u
    obtain ⟨u, q⟩ := R1.dom a z
    have q' : upd F.H0 p o a = some u := q
    by_cases e : a = p
    · rw [e]; exact ⟨_, upd_same⟩
    · rw [upd_ne e] at q' ⊢
      exact ⟨u, q'⟩
  · have h' : upd F.H0 p o' a = some u := h
    by_cases e : a = p
    · subst e
      rw [upd_same] at h' ⊢
      exact h'
    · rw [upd_ne e] at h' ⊢
      exact R1.keep a u (show upd F.H0 p o a = some u by rw [upd_ne e]; exact h') n
  · obtain ⟨a, g1, g2, g3⟩ := R1.own i d h
    have na := np i d a h g1
    refine ⟨a, g1, g2.mono st.same (fun u q => by rw [upd_ne na]; exact q), ?_⟩
    rcases g3 with g3 | g3
    · exact .inl g3
    · have g3' : upd F.H0 p o a = none := g3
      rw [upd_ne na] at g3'
      exact .inr (show upd F.H0 p o' a = none by rw [upd_ne na]; exact g3')
  · obtain ⟨v, g1, g2⟩ := R1.dat i d h
    exact ⟨v, g1, g2.mono st.same⟩
end

/-! ### [elt for target in iter if test] -/
def lcF (g : FG) (t : FT) (fe : FD) (vs : List Nat) : List Dt → En → Option (List Dt × En)
  | [], e => some ([], e)
  | d :: ds, e => (g d e).bind fun e1 => (t e1).bind fun p => if p.1 = true then
      (fe p.2).bind fun q => if noOwn q.2 vs = true then (lcF g t fe vs ds (wipeE q.2 vs)).bind fun r => some (q.1 :: r.1, r.2) else none
    else if noOwn p.2 vs = true then lcF g t fe vs ds (wipeE p.2 vs) else none
def lcD (f : FI) (g : FG) (t : FT) (fe : FD) (vs : List Nat) : FD := fun e => (f e).bind fun p => if noOwn p.2 vs = true then (lcF g t fe vs p.1 (wipeE p.2 vs)).bind fun r => some (.list r.1, backE p.2 r.2 vs) else none
def yesT : FT := fun e => some (true, e)
abbrev PTd (X : Cx) (ifs : List Expr) (t : FT) : Prop := PTs X ifs (tT X.lay t)
theorem _root_.L2.PTs.imp {X : Cx} {e : List Expr} {t t' : TT} (h : PTs X e t) (k : ∀ σ H Q, t' σ H Q → t σ H Q) : PTs X e t' := ⟨fun pins s σ H Q I q => h.run pins s σ H Q I (k σ H Q q)⟩
theorem c_yes {X : Cx} : PTd X [] yesT := PTs.imp pts_nil fun σ H Q q => by
  obtain ⟨F, env, b, env', R0, hf, k⟩ := q
  cases hf
  exact k H R0 (Kd.refl _) Stp.refl
theorem c_if {X : Cx} {c : Expr} {t : FT} (h : PB X c t) : PTd X [c] t := pts_one h
theorem Out1.kdx {ss vs : List Nat} {σ σ' : St} {e e' : En} (h : Out1 ss σ σ' e e') (hs : ∀ i ∈ ss, i ∈ vs) : KdX vs e e' := fun i hi => .inl (h.2 i fun z => hi (hs i z)).2
theorem Out1.wipe {ss vs : List Nat} {σ σ' : St} {e e' : En} (h : Out1 ss σ σ' e e') (hs : ∀ i ∈ ss, i ∈ vs) (hl : σ'.length = σ.length) : L2.wipe σ' vs = L2.wipe σ vs := by
  have key : ∀ (i : Nat), (L2.wipe σ' vs)[i]? = (L2.wipe σ vs)[i]? := fun i => by
    by_cases hi : i ∈ vs
    · have none_at : ∀ (τ : St) (us : List Nat), i ∈ us → (L2.wipe τ us)[i]? = if i < τ.length then some none else none := fun τ us => by
        induction us with
        | nil => intro h; exact absurd h (by simp)
        | cons u us ih =>
          intro h
          unfold L2.wipe
          by_cases hu : u = i
          · subst hu
            rw [List.getElem?_set]
            simp only [if_pos, wipe_length]
          · rw [List.getElem?_set_ne hu]
            exact ih ((List.mem_cons.mp h).elim (fun z => absurd z.symm hu) id)
      rw [none_at σ' vs hi, none_at σ vs hi, hl]
    · rw [wipe_out hi, wipe_out hi]
      exact (h.2 i fun z => hi (hs i z)).1
  exact List.ext_getElem? key
theorem wipe_idem (σ : St) (vs : List Nat) : L2.wipe (L2.wipe σ vs) vs = L2.wipe σ vs := by
  have key : ∀ (i : Nat), (L2.wipe (L2.wipe σ vs) vs)[i]? = (L2.wipe σ vs)[i]? := fun i => by
    by_cases hi : i ∈ vs
    · have none_at : ∀ (τ : St) (us : List Nat), i ∈ us → (L2.wipe τ us)[i]? = if i < τ.length then some none else none := fun τ us => by
        induction us with
        | nil => intro h; exact absurd h (by simp)
        | cons u us ih =>
          intro h
          unfold L2.wipe
          by_cases hu : u = i
          · subst hu
            rw [List.getElem?_set]
            simp only [if_pos, wipe_length]
          · rw [List.getElem?_set_ne hu]
            exact ih ((List.mem_cons.mp h).elim (fun z => absurd z.symm hu) id)
      rw [none_at _ vs hi, none_at σ vs hi, wipe_length]
    · rw [wipe_out hi]
  exact List.ext_getElem? key
section
variable {X : Cx} {Y : Lay} {m : Nat} {vs : List Nat}
theorem lcF_len {g : FG} {t : FT} {fe : FD} : ∀ {ds : List Dt} {e : En} {r : List Dt × En}, lcF g t fe vs ds e = some r → r.1.length ≤ ds.length
  | [], _, _, h => by cases h; exact Nat.le_refl _
  | d :: ds, e, r, h => by
    obtain ⟨e1, h1, h⟩ := Option.bind_eq_some_iff.mp h
    obtain ⟨⟨b, e2⟩, h2, h⟩ := Option.bind_eq_some_iff.mp h
    cases b with
    | true =>
      simp only [if_true] at h
      obtain ⟨⟨y, e3⟩, h3, h⟩ := Option.bind_eq_some_iff.mp h
      split at h
      · obtain ⟨r', h4, h⟩ := Option.bind_eq_some_iff.mp h
        cases h
        have := lcF_len h4
        simp
        exact this
      · cases h
    | false =>
      simp only [Bool.false_eq_true, if_false] at h
      split at h
      · have := lcF_len h
        simp
        omega
      · cases h
theorem ms_no (R0 : Rel Y F σ H env) {vs : List Nat} (h : noOwn env vs = true) : ∀ i ∈ vs, F.ms.length ≤ i := fun i hi => by
  by_cases hl : i < F.ms.length
  · obtain ⟨_, d, h2⟩ := R0.msAt i _ (List.getElem?_eq_getElem hl)
    exact absurd h2 (noOwn_at h hi)
  · omega
theorem lc_use {ss : List Nat} {f : FI} {g : FG} {t : FT} {fe : FD} (hs : ∀ i ∈ ss, i ∈ vs) : ∀ σ H Q, tF Y (lcD f g t fe vs) σ H Q → tLc (tI Y f) (tG Y ss g) (tT Y t) (tD Y fe) vs σ H Q := fun σ H Q q => by
  obtain ⟨F, env, d, env', R0, hf, k⟩ := q
  obtain ⟨⟨ds, e1⟩, h1, hf⟩ := Option.bind_eq_some_iff.mp hf
  split at hf
  · rename_i no1
    obtain ⟨⟨res, ef⟩, h2, hf⟩ := Option.bind_eq_some_iff.mp hf
    cases hf
    refine ⟨F, env, ds, e1, R0, h1, fun J H1 R1 kd1 s1 yl hz D hD => ?_⟩
    have n0 := R1.fresh0 hD
    have nO : ¬ F.O0 D := fun z => R1.fresh hD (.inl z)
    have hD0 : H D = none := fresh_back R1 kd1 s1 hD
    have RW : Rel Y F (L2.wipe σ vs) H1 (wipeE e1 vs) := R1.wipe no1
    have RP : Rel Y (F.plus D (.lst [])) (L2.wipe σ vs) (upd H1 D (.lst [])) (wipeE e1 vs) := RW.plus hD (same_upd hD) upd_same
    have owp : ∀ (o : HO) (e : En) (τ : St) a, Ow (F.plus D o) τ e a ↔ a = D ∨ Ow F τ e a := fun o e τ a => ow_plus
    have st0 : Stp (Ow F σ e1) H1 (Ow (F.plus D (.lst [])) (L2.wipe σ vs) (wipeE e1 vs)) (upd H1 D (.lst [])) := fun a o n e => by
      refine ⟨fun z => ?_, same_upd hD a o e⟩
      rw [owp, ow_wipe no1] at z
      exact z.elim (fun w => by rw [w, hD] at e; cases e) n
    refine ⟨fun i mm Hc => mm = ds.length - i ∧ i ≤ ds.length ∧ ∃ acc accd ei rest, Hc D = some (.lst acc) ∧ acc.length ≤ i ∧ Rel Y (F.plus D (.lst acc)) (L2.wipe σ vs) Hc ei ∧ Stp (Ow F σ e1) H1 (Ow (F.plus D (.lst acc)) (L2.wipe σ vs) ei) Hc ∧
      Ats Y (hide (Ow (F.plus D (.lst acc)) (L2.wipe σ vs) ei) Hc) acc accd ∧ KdX vs e1 ei ∧ ei.length = e1.length ∧ noOwn ei vs = true ∧ lcF g t fe vs (ds.drop i) ei = some (rest, ef) ∧ accd ++ rest = res, ⟨_, rfl, Nat.zero_le _, [], [], wipeE e1 vs, res, upd_same, Nat.le_refl _, RP, st0, .nil, KdX.of_wipe e1, wipeE_len _ _, ?_, by simpa using h2, rfl⟩, ?_⟩
    · refine List.all_eq_true.mpr fun i hi => ?_
      cases q : (wipeE e1 vs)[i]? with
      | none => rfl
      | some c => rw [wipeE_in hi q]
    rintro i mm Hc ⟨rfl, hi, acc, accd, ei, rest, hacc, hal, R2, s2, ka, kx, el, noi, hr, hcat⟩
    have yi := yl i _ _ s2 (fun a h => R2.ow_there h)
    by_cases hlt : i < ds.length
    · have e0 : ds.drop i = ds[i] :: ds.drop (i + 1) := List.drop_eq_getElem_cons hlt
      rw [e0] at hr
      obtain ⟨e2, g1, hr⟩ := Option.bind_eq_some_iff.mp hr
      obtain ⟨⟨b, e3⟩, g2, hr⟩ := Option.bind_eq_some_iff.mp hr
      obtain ⟨hgo, hy⟩ := yi.1 ds[i] (by simp [hlt])
      refine .inr ⟨hgo, fun H' => ∃ acc accd ei rest, H' D = some (.lst acc) ∧ acc.length ≤ i + 1 ∧ Rel Y (F.plus D (.lst acc)) (L2.wipe σ vs) H' ei ∧ Stp (Ow F σ e1) H1 (Ow (F.plus D (.lst acc)) (L2.wipe σ vs) ei) H' ∧
        Ats Y (hide (Ow (F.plus D (.lst acc)) (L2.wipe σ vs) ei) H') acc accd ∧ KdX vs e1 ei ∧ ei.length = e1.length ∧ noOwn ei vs = true ∧ lcF g t fe vs (ds.drop (i + 1)) ei = some (rest, ef) ∧ accd ++ rest = res, fun H' z => ⟨_, by omega, rfl, hlt, z⟩, fun x H3 y => ?_⟩
      obtain ⟨sm, ax⟩ := hy x H3 y
      have R3 := R2.same sm
      refine ⟨F.plus D (.lst acc), ei, ds[i], e2, fun j hj => ms_no R3 noi j (hs j hj), R3, ax, g1, fun σ4 R4 s4 o4 => ?_⟩
      have hl4 : σ4.length = (L2.wipe σ vs).length := by
        have a1 := R4.len
        have a2 := R3.len
        have a3 := o4.1
        omega
      have ww : L2.wipe σ4 vs = L2.wipe σ vs := (o4.wipe hs hl4).trans (wipe_idem σ vs)
      refine ⟨ww, F.plus D (.lst acc), e2, b, e3, R4, g2, fun H5 R5 kd5 s5 => ?_⟩
      have s6 := ((s2.trans (Stp.of sm)).trans s4).trans s5
      have kx5 : KdX vs e1 e3 := (kx.trans (o4.kdx hs)).trans kd5.x
      have el5 : e3.length = e1.length := by
        have a1 := R5.len
        have a2 := R3.len
        omega
      have noW : ∀ e : En, noOwn (wipeE e vs) vs = true := fun e => by
        refine List.all_eq_true.mpr fun j hj => ?_
        cases q : (wipeE e vs)[j]? with
        | none => rfl
        | some c => rw [wipeE_in hj q]
      have ka5 := ka.mono (Stp.same (((Stp.of sm).trans s4).trans s5))
      have aD : ∀ {τ : St} {H' : Hp} {e : En}, Rel Y (F.plus D (.lst acc)) τ H' e → H' D = some (.lst acc) := fun {τ H' e} R => R.keep D _ (show upd F.H0 D (.lst acc) D = _ from upd_same) fun z => by
        obtain ⟨u, q⟩ := R0.ms_there z
        rw [hD0] at q; cases q
      cases b with
      | false =>
        simp only [Bool.false_eq_true, if_false] at hr ⊢
        split at hr
        · rename_i no5
          have RW5 := R5.wipe no5
          have ow5 : Ow (F.plus D (.lst acc)) (L2.wipe σ vs) (wipeE e3 vs) = Ow (F.plus D (.lst acc)) σ4 e3 := by rw [← ww]; exact ow_wipe no5
          rw [ww] at RW5
          refine ⟨acc, accd, wipeE e3 vs, rest, aD R5, by omega, RW5, by rw [ow5]; exact s6, by rw [ow5]; exact ka5, kx5.wipe, (wipeE_len _ _).trans el5, noW _, hr, hcat⟩
        · cases hr
      | true =>
        simp only [if_true] at hr ⊢
        obtain ⟨⟨y', e5⟩, g3, hr⟩ := Option.bind_eq_some_iff.mp hr
        split at hr
        · rename_i no6
          obtain ⟨⟨r1, r2⟩, g4, hr⟩ := Option.bind_eq_some_iff.mp hr
          cases hr
          refine ⟨F.plus D (.lst acc), e3, y', e5, R5, g3, fun v H6 R6 kd6 s7 a6 => ?_⟩
          refine ⟨acc, aD R6, by omega, ?_⟩
          obtain ⟨R7, s8⟩ := R6.replus (o' := .lst (acc ++ [v])) nO n0
          have RW7 := R7.wipe no6
          have ow7 : Ow (F.plus D (.lst (acc ++ [v]))) (L2.wipe σ vs) (wipeE e5 vs) = Ow (F.plus D (.lst (acc ++ [v]))) σ4 e5 := by rw [← ww]; exact ow_wipe no6
          rw [ww] at RW7
          refine ⟨acc ++ [v], accd ++ [y'], wipeE e5 vs, r1, upd_same, by simp; omega, RW7, by rw [ow7]; exact (s6.trans s7).trans s8, by rw [ow7]; exact ((ka5.mono s7.same).append (.cons a6 .nil)).mono s8.same, (kx5.trans kd6.x).wipe, ?_, noW _, g4, by simpa using hcat⟩
          rw [wipeE_len]
          have a1 := R5.len
          have a2 := R6.len
          omega
        · cases hr
    · have e0 : ds.drop i = [] := List.drop_eq_nil_of_le (by omega)
      rw [e0] at hr
      cases hr
      refine .inl ⟨yi.2 (by omega), ?_⟩
      obtain ⟨RB, owB⟩ := R2.back (O1 := Ow F σ e1) (H1 := H1) el.symm no1 noi (fun j d' hj hd => R1.dat j d' hd) s2
      have kdB : Kd env (backE e1 ef vs) := kd1.trans fun j => by
        by_cases hj : j ∈ vs
        · exact .inl (backE_in el.symm hj)
        · rw [backE_out hj]
          exact kx j hj
      refine k D (.lst acc) Hc hD0 RB kdB (by rw [owB]; exact s1.trans s2) ?_
      rw [owB]
      refine .lst hacc ?_
      rw [← hcat]
      simpa using ka
  · cases hf
/-- a comprehension: a new list -/
theorem f_lc {ss : List Nat} {elt tg iter : Expr} {ifs : List Expr} {scope : Scope} {own : List (Str × Nat)} {pos : Pos} {f : FI} {g : FG} {t : FT} {fe : FD} (hc : X.calm = true) (hN : X.N.Nodup) (hi : PId X tg iter f) (ok : BlkOk X.N X.env.scope scope own)
    (hg : ∀ (s : Shared) (H : Hp) (C : Addr) (cl : List (Str × Addr)) (fp : List Addr), PGd (X.blk s H scope (compEnvC scope cl C X.env) fp) ss tg g) (ht : ∀ (s : Shared) (H : Hp) (C : Addr) (cl : List (Str × Addr)) (fp : List Addr), PTd (X.blk s H scope (compEnvC scope cl C X.env) fp) ifs t)
    (he : ∀ (s : Shared) (H : Hp) (C : Addr) (cl : List (Str × Addr)) (fp : List Addr), PD (X.blk s H scope (compEnvC scope cl C X.env) fp) elt fe) (hss : ∀ i ∈ ss, i ∈ own.map (·.2) := by decide) (hs : ∀ x, foldedSetIterable iter X.env x = pure x := by intro _; rfl) :
    PF X (.ListComp elt [⟨tg, iter, ifs, 0⟩] scope pos) (lcD f g t fe (own.map (·.2))) := (pe_lc hc hN hi ok hg ht he hs).imp (lc_use hss)
/-- name = [..] on one line -/
theorem z_lc {ss : List Nat} (i : Nat) {y : Str} {py : Pos} {elt tg iter : Expr} {ifs : List Expr} {scope : Scope} {own : List (Str × Nat)} {pos spos : Pos} {f : FI} {g : FG} {t : FT} {fe : FD} (hc : X.calm = true) (hN : X.N.Nodup)
    (hi : PId X tg iter f) (ok : BlkOk X.N X.env.scope scope own)
    (hg : ∀ (s : Shared) (H : Hp) (C : Addr) (cl : List (Str × Addr)) (fp : List Addr), PGd (X.blk s H scope (compEnvC scope cl C X.env) fp) ss tg g) (ht : ∀ (s : Shared) (H : Hp) (C : Addr) (cl : List (Str × Addr)) (fp : List Addr), PTd (X.blk s H scope (compEnvC scope cl C X.env) fp) ifs t)
    (he : ∀ (s : Shared) (H : Hp) (C : Addr) (cl : List (Str × Addr)) (fp : List Addr), PD (X.blk s H scope (compEnvC scope cl C X.env) fp) elt fe) (hm : m ≤ i := by decide) (hy : X.N[i]? = some y := by rfl) (hyl : X.env.scope.names.lookup y = some .local := by rfl)
    (hsw : swapsWith (.ListComp elt [⟨tg, iter, ifs, 0⟩] scope pos) (some (.Name y py)) spos.line X.env = pure true := by exact sw_true rfl rfl rfl (by decide +kernel)) (hss : ∀ i ∈ ss, i ∈ own.map (·.2) := by decide) (hs : ∀ x, foldedSetIterable iter X.env x = pure x := by intro _; rfl) :
    PZ X m (.Assign [.Name y py] (.ListComp elt [⟨tg, iter, ifs, 0⟩] scope pos) spos) (owS i (lcD f g t fe (own.map (·.2)))) := (ps_setLc hc hN hy hyl hsw hi ok hg ht he hs).imp fun D σ H q => own_fin hm D σ H q |> fun z => lc_use hss σ H _ z
/-- .. read only -/
theorem z_lcD {ss : List Nat} (i : Nat) {y : Str} {py : Pos} {elt tg iter : Expr} {ifs : List Expr} {scope : Scope} {own : List (Str × Nat)} {pos spos : Pos} {f : FI} {g : FG} {t : FT} {fe : FD} (hc : X.calm = true) (hN : X.N.Nodup)
    (hi : PId X tg iter f) (ok : BlkOk X.N X.env.scope scope own)
    (hg : ∀ (s : Shared) (H : Hp) (C : Addr) (cl : List (Str × Addr)) (fp : List Addr), PGd (X.blk s H scope (compEnvC scope cl C X.env) fp) ss tg g) (ht : ∀ (s : Shared) (H : Hp) (C : Addr) (cl : List (Str × Addr)) (fp : List Addr), PTd (X.blk s H scope (compEnvC scope cl C X.env) fp) ifs t)
    (he : ∀ (s : Shared) (H : Hp) (C : Addr) (cl : List (Str × Addr)) (fp : List Addr), PD (X.blk s H scope (compEnvC scope cl C X.env) fp) elt fe) (hm : m ≤ i := by decide) (hy : X.N[i]? = some y := by rfl) (hyl : X.env.scope.names.lookup y = some .local := by rfl)
    (hsw : swapsWith (.ListComp elt [⟨tg, iter, ifs, 0⟩] scope pos) (some (.Name y py)) spos.line X.env = pure true := by exact sw_true rfl rfl rfl (by decide +kernel)) (hss : ∀ i ∈ ss, i ∈ own.map (·.2) := by decide) (hs : ∀ x, foldedSetIterable iter X.env x = pure x := by intro _; rfl) :
    PZ X m (.Assign [.Name y py] (.ListComp elt [⟨tg, iter, ifs, 0⟩] scope pos) spos) (asS (lcD f g t fe (own.map (·.2))) (gN i)) := (ps_setLc hc hN hy hyl hsw hi ok hg ht he hs).imp fun D σ H q => by
  obtain ⟨F, env, out, hm', R0, hf, k⟩ := q
  obtain ⟨⟨d, e1⟩, h1, hf⟩ := Option.bind_eq_some_iff.mp hf
  cases hf
  refine lc_use hss σ H _ ⟨F, env, d, e1, R0, h1, fun p o H1 hp R1 kd s a => ?_⟩
  have n0 : ¬ F.O0 p := fun z => R0.fresh hp (.inl z)
  have R2 := R1.unplus (R0.fresh0 hp) n0
  have no : ¬ Ow F σ e1 p := by
    rw [← kd.ow]
    exact R0.fresh hp
  have sm : Same (hide (Ow (F.plus p o) σ e1) H1) (hide (Ow F σ e1) H1) := hide_sub fun a z => ow_plus.mpr (.inr z)
  obtain ⟨R3, s3⟩ := R2.set (by omega : F.ms.length ≤ i) (a.at sm fun o z => hide_some.mpr ⟨no, z⟩)
  exact k _ H1 R3 (Stp.trans (fun b u n e => ⟨fun z => (s b u n e).1 (ow_plus.mpr (.inr z)), (s b u n e).2⟩) s3)
end
end DL

set_option Elab.async false
set_option linter.all false
set_option maxRecDepth 100000
set_option autoImplicit true
/-! DL7: defs: their promises, their calls, their bodies. -/
namespace DL
open PySem L2

/-! ### promises -/
/-- what a def computes: of its arguments' data a result, and what its first arguments (lists that it may change) hold then -/
abbrev FF := List Dt → Option (Dt × List Dt)
inductive Owns (Y : Lay) (Hh H : Hp) : List Addr → List Dt → Prop
  | nil : Owns Y Hh H [] []
  | cons {a : Addr} {as : List Addr} {d : Dt} {ds : List Dt} : OwnAt Y Hh H a d → Owns Y Hh H as ds → Owns Y Hh H (a :: as) (d :: ds)
def spD (Y : Lay) (n : Nat) (G : FF) : Sp := fun vs H Q _ => ∃ (O : Addr → Prop) (as : List Addr) (us : List V) (es fs : List Dt) (d : Dt) (ms' : List Dt),
  (∀ a, O a → ∃ o, H a = some o) ∧ as.Nodup ∧ (∀ a ∈ as, ¬ O a) ∧ vs = as.map V.ref ++ us ∧ vs.length = n ∧ Owns Y (hide (fun a => O a ∨ a ∈ as) H) H as es ∧ Ats Y (hide (fun a => O a ∨ a ∈ as) H) us fs ∧
  G (es ++ fs) = some (d, ms') ∧ ms'.length = as.length ∧
  ∀ v H', (∀ a o, H a = some o → a ∉ as → H' a = some o) → Owns Y (hide (fun a => O a ∨ a ∈ as) H') H' as ms' → At Y (hide (fun a => O a ∨ a ∈ as) H') v d → Q v H'
theorem Owns.length {Y : Lay} {Hh H : Hp} : ∀ {as : List Addr} {ds : List Dt}, Owns Y Hh H as ds → as.length = ds.length
  | _, _, .nil => rfl
  | _, _, .cons _ k => by simp [Owns.length k]
theorem Owns.get {Y : Lay} {Hh H : Hp} : ∀ {as : List Addr} {ds : List Dt} {i : Nat} {a : Addr}, Owns Y Hh H as ds → as[i]? = some a → ∃ d, ds[i]? = some d ∧ OwnAt Y Hh H a d
  | _, _, _, _, .nil, e => by simp at e
  | _, _, 0, _, .cons h _, e => by simp at e; subst e; exact ⟨_, rfl, h⟩
  | _, _, i + 1, _, .cons _ k, e => by
    obtain ⟨v, h1, h2⟩ := Owns.get (i := i) k (by simpa using e)
    exact ⟨v, by simpa using h1, h2⟩
theorem Owns.getD {Y : Lay} {Hh H : Hp} : ∀ {as : List Addr} {ds : List Dt} {i : Nat} {d : Dt}, Owns Y Hh H as ds → ds[i]? = some d → ∃ a, as[i]? = some a ∧ OwnAt Y Hh H a d
  | _, _, _, _, .nil, e => by simp at e
  | _, _, 0, _, .cons h _, e => by simp at e; subst e; exact ⟨_, rfl, h⟩
  | _, _, i + 1, _, .cons _ k, e => by
    obtain ⟨v, h1, h2⟩ := Owns.getD (i := i) k (by simpa using e)
    exact ⟨v, by simpa using h1, h2⟩

/-! ### a def's body -/
/-- the first m names are lists of the caller's, the next ones data -/
def iniE (m n : Nat) (ds : List Dt) : En := (ds.take m).map .own ++ (ds.drop m).map .dat ++ List.replicate (n - ds.length) .un
def ownsE : Nat → En → Option (List Dt)
  | 0, _ => some []
  | m + 1, .own d :: e => (ownsE m e).bind fun ds => some (d :: ds)
  | _ + 1, _ => none
/-- n names in all, m of them lists that may change -/
def runF (m n : Nat) (f : FS) : FF := fun ds => (f (iniE m n ds)).bind fun o => match o with
  | .rt d e => (ownsE m e).bind fun ms => some (d, ms)
  | .nx e => (ownsE m e).bind fun ms => some (.none, ms)
  | _ => none
theorem ownsE_get : ∀ {m : Nat} {e : En} {ds : List Dt}, ownsE m e = some ds → ds.length = m ∧ ∀ (i : Nat) d, ds[i]? = some d → e[i]? = some (.own d)
  | 0, _, _, h => by cases h; exact ⟨rfl, fun _ _ h => by simp at h⟩
  | m + 1, [], _, h => by cases h
  | m + 1, .own d :: e, ds, h => by
    obtain ⟨ds', h1, h2⟩ := Option.bind_eq_some_iff.mp h
    cases h2
    obtain ⟨a, b⟩ := ownsE_get h1
    refine ⟨by simp [a], fun i d' hd => ?_⟩
    cases i with
    | zero => simpa using hd
    | succ i => simpa using b i d' (by simpa using hd)
  | m + 1, .un :: _, _, h => by cases h
  | m + 1, .dat _ :: _, _, h => by cases h
section
variable {P : Program} {w : World} {K : PySem.W.Frag} {mg : Str → Option Value} {base : Heap}
theorem start_get {N : List Str} {vs : List V} (i : Nat) : (L2.start N vs)[i]? = if i < vs.length then (vs[i]?).map some else if i < vs.length + (N.length - vs.length) then some none else none := by
  unfold L2.start
  by_cases h : i < vs.length
  · rw [if_pos h, List.getElem?_append_left (by simpa using h), List.getElem?_map]
  · rw [if_neg h, List.getElem?_append_right (by simpa using h), List.getElem?_replicate]
    simp only [List.length_map]
    by_cases h2 : i < vs.length + (N.length - vs.length)
    · rw [if_pos (by omega), if_pos h2]
    · rw [if_neg (by omega), if_neg h2]
theorem ini_rel {Y : Lay} {H : Hp} {O : Addr → Prop} {as : List Addr} {us : List V} {es fs : List Dt} {N : List Str} {n : Nat} (hN : (as.map V.ref ++ us).length ≤ N.length) (hO : ∀ a, O a → ∃ o, H a = some o) (nd : as.Nodup) (nO : ∀ a ∈ as, ¬ O a)
    (ho : Owns Y (hide (fun a => O a ∨ a ∈ as) H) H as es) (ha : Ats Y (hide (fun a => O a ∨ a ∈ as) H) us fs) : Rel Y ⟨H, O, as⟩ (L2.start N (as.map V.ref ++ us)) H (iniE as.length N.length (es ++ fs)) := by
  have l1 : as.length = es.length := ho.length
  have l2 : us.length = fs.length := ha.length
  have lv : (as.map V.ref ++ us).length = (es ++ fs).length := by simp [l1, l2]
  have tk : (es ++ fs).take as.length = es := by rw [l1]; simp
  have dr : (es ++ fs).drop as.length = fs := by rw [l1]; simp
  have ee : iniE as.length N.length (es ++ fs) = es.map .own ++ fs.map .dat ++ List.replicate (N.length - (es ++ fs).length) .un := by unfold iniE; rw [tk, dr]
  have gown : ∀ (i : Nat) d, (iniE as.length N.length (es ++ fs))[i]? = some (.own d) → i < as.length ∧ es[i]? = some d := fun i d h => by
    rw [ee] at h
    by_cases h1 : i < es.length
    · rw [List.append_assoc, List.getElem?_append_left (by simpa using h1), List.getElem?_map] at h
      obtain ⟨d', h2, h3⟩ := Option.map_eq_some_iff.mp h
      cases h3
      exact ⟨by omega, h2⟩
    · rw [List.append_assoc, List.getElem?_append_right (by simpa using h1)] at h
      by_cases h4 : i - (es.map Cell.own).length < (fs.map Cell.dat).length
      · rw [List.getElem?_append_left h4, List.getElem?_map] at h
        obtain ⟨d', h2, h3⟩ := Option.map_eq_some_iff.mp h
        cases h3
      · rw [List.getElem?_append_right (by omega), List.getElem?_replicate] at h
        split at h <;> cases h
  have gdat : ∀ (i : Nat) d, (iniE as.length N.length (es ++ fs))[i]? = some (.dat d) → as.length ≤ i ∧ fs[i - as.length]? = some d := fun i d h => by
    rw [ee] at h
    by_cases h1 : i < es.length
    · rw [List.append_assoc, List.getElem?_append_left (by simpa using h1), List.getElem?_map] at h
      obtain ⟨d', h2, h3⟩ := Option.map_eq_some_iff.mp h
      cases h3
    · rw [List.append_assoc, List.getElem?_append_right (by simpa using h1)] at h
      by_cases h4 : i - (es.map Cell.own).length < (fs.map Cell.dat).length
      · rw [List.getElem?_append_left h4, List.getElem?_map] at h
        obtain ⟨d', h2, h3⟩ := Option.map_eq_some_iff.mp h
        cases h3
        rw [List.length_map] at h2
        exact ⟨by omega, by rw [l1]; exact h2⟩
      · rw [List.getElem?_append_right (by omega), List.getElem?_replicate] at h
        split at h <;> cases h
  have sas : ∀ (i : Nat) a, as[i]? = some a → (L2.start N (as.map V.ref ++ us))[i]? = some (some (.ref a)) := fun i a h => by
    have hi : i < as.length := (List.getElem?_eq_some_iff.mp h).1
    rw [start_get, if_pos (by simp; omega), List.getElem?_append_left (by simpa using hi), List.getElem?_map, h]
    rfl
  have sus : ∀ (i : Nat) v, as.length ≤ i → us[i - as.length]? = some v → (L2.start N (as.map V.ref ++ us))[i]? = some (some v) := fun i v hi h => by
    have h2 : i - as.length < us.length := (List.getElem?_eq_some_iff.mp h).1
    rw [start_get, if_pos (by simp; omega), List.getElem?_append_right (by simpa using hi), List.length_map, h]
    rfl
  have eown : ∀ (i : Nat) d, es[i]? = some d → (iniE as.length N.length (es ++ fs))[i]? = some (.own d) := fun i d h => by
    have hi : i < es.length := (List.getElem?_eq_some_iff.mp h).1
    rw [ee, List.append_assoc, List.getElem?_append_left (by simpa using hi), List.getElem?_map, h]
    rfl
  have ow : Ow ⟨H, O, as⟩ (L2.start N (as.map V.ref ++ us)) (iniE as.length N.length (es ++ fs)) = fun a => O a ∨ a ∈ as := by
    funext a
    apply propext
    constructor
    · rintro (z | ⟨i, d, h1, h2⟩)
      · exact .inl z
      · obtain ⟨h3, h4⟩ := gown i d h1
        rw [sas i as[i] (by simp [h3])] at h2
        cases h2
        exact .inr (List.getElem_mem h3)
    · rintro (z | z)
      · exact .inl z
      · obtain ⟨i, hi, e⟩ := List.mem_iff_getElem.mp z
        have h5 : as[i]? = some a := by rw [List.getElem?_eq_getElem hi, e]
        obtain ⟨d, h6, _⟩ := ho.get h5
        exact .inr ⟨i, d, eown i d h6, sas i a h5⟩
  refine ⟨hO, nO, ?_, fun a o h _ => h, fun i d h => ?_, fun i j d e a h1 h2 h3 h4 => ?_, fun i d h => ?_, fun j a h => ?_⟩
  · rw [ee]
    unfold L2.start
    simp only [List.length_append, List.length_map, List.length_replicate]
    omega
  · obtain ⟨h1, h2⟩ := gown i d h
    obtain ⟨a, h3, h4⟩ := ho.getD h2
    rw [ow]
    exact ⟨a, sas i a h3, h4, .inl (List.mem_of_getElem? h3)⟩
  · obtain ⟨a1, _⟩ := gown i d h1
    obtain ⟨a2, _⟩ := gown j e h2
    rw [sas i as[i] (by simp [a1])] at h3
    rw [sas j as[j] (by simp [a2])] at h4
    cases h3
    have e := Option.some.inj (Option.some.inj h4)
    injection e with e
    exact (List.getElem_inj nd).mp e.symm
  · obtain ⟨h1, h2⟩ := gdat i d h
    obtain ⟨v, h3, h4⟩ := ha.get h2
    rw [ow]
    exact ⟨v, sus i v h1 h3, h4⟩
  · obtain ⟨d, h1, _⟩ := ho.get h
    exact ⟨sas j a h, d, eown j d h1⟩
/-- a def's body keeps its promise -/
theorem fn_d {x qual : Str} {st : Stmt} {f : Addr} {fd : FuncData} {N ps : List Str} {k m : Nat} {g : FS} {G : FF} (F : Fun K x qual st f fd) (S : FnScope N ps (defScope st)) (hG : ∀ ds r, G ds = some r → r.2.length = m ∧ runF m N.length g ds = some r)
    (hb : ∀ (cdv : Value) (A : Around) (outer : List Env) (s : Shared) (H : Hp) (E : XK), Room k (A.deeper (PyProof.Rows.envOfC qual (defScope st) s.heap.objs.size f cdv)) → PZs (cxOf CX0 P w K mg base N qual (defScope st) f cdv A outer s H E).nox m (defBody st) g) : FnOk P w K mg base CX0 (k + 1) f fd ps (spD ⟨P, w, K⟩ ps.length G) := by
  refine F.ok S (fun vs H Q E h => ?_) (fun cdv A outer s H vs Q E hr h => ⟨_, hb cdv A outer s H E hr, ?_⟩)
  · obtain ⟨O, as, us, es, fs, d, ms', _, _, _, _, h, _⟩ := h
    exact h
  · obtain ⟨O, as, us, es, fs, d, ms', hO, nd, nO, rfl, hl, ho, ha, hg, hms, q⟩ := h
    obtain ⟨hm, hg⟩ := hG _ _ hg
    have hm' : as.length = m := hms.symm.trans hm
    have hN : ps.length ≤ N.length := by have := congrArg List.length S.pre; rw [List.length_take] at this; omega
    have R0 := ini_rel (Y := ⟨P, w, K⟩) (N := N) (n := ps.length) (by omega) hO nd nO ho ha
    rw [hm'] at R0
    obtain ⟨o, h1, h2⟩ := Option.bind_eq_some_iff.mp hg
    have fin : ∀ (e : En) (σ' : St) (H' : Hp) (v : V), ownsE m e = some ms' → Rel ⟨P, w, K⟩ ⟨H, O, as⟩ σ' H' e → At ⟨P, w, K⟩ (hide (fun a => O a ∨ a ∈ as) H') v d → Q v H' := fun e σ' H' v h3 R1 av => by
      obtain ⟨h4, h5⟩ := ownsE_get h3
      refine q v H' (fun a u h6 h7 => R1.keep a u h6 h7) ?_ av
      have all : ∀ (n : Nat) (as' : List Addr) (ms'' : List Dt), as'.length = ms''.length → (∀ (i : Nat) a d, as'[i]? = some a → ms''[i]? = some d → OwnAt ⟨P, w, K⟩ (hide (fun a => O a ∨ a ∈ as) H') H' a d) → Owns ⟨P, w, K⟩ (hide (fun a => O a ∨ a ∈ as) H') H' as' ms'' := by
        intro n as'
        induction as' with
        | nil =>
          intro ms'' hl _
          cases ms'' with
          | nil => exact .nil
          | cons _ _ => simp at hl
        | cons a as' ih =>
          intro ms'' hl hh
          cases ms'' with
          | nil => simp at hl
          | cons d ms'' => exact .cons (hh 0 a d rfl rfl) (ih ms'' (by simpa using hl) fun i a d h1 h2 => hh (i + 1) a d (by simpa using h1) (by simpa using h2))
      refine all 0 as ms' hms.symm fun i a d' h6 h7 => ?_
      obtain ⟨g1, _⟩ := R1.msAt i a h6
      obtain ⟨b, g2, g3, _⟩ := R1.own i d' (h5 i d' h7)
      rw [g1] at g2
      cases g2
      exact g3.mono (hide_sub (ms_ow R1)) fun _ z => z
    refine ⟨⟨H, O, as⟩, _, o, hm', R0, h1, ?_⟩
    cases o with
    | nx e =>
      obtain ⟨ms2, h3, h4⟩ := Option.bind_eq_some_iff.mp h2
      cases h4
      exact fun σ' H' R1 _ => fin e σ' H' _ h3 R1 .non
    | rt d' e =>
      obtain ⟨ms2, h3, h4⟩ := Option.bind_eq_some_iff.mp h2
      cases h4
      exact fun v σ' H' R1 a => fin e σ' H' v h3 R1 a
    | bk e => cases h2
    | ct e => cases h2
end

/-! ### calls -/
def isDr : R → Bool
  | .d _ => true
  | .o _ => false
/-- f(..), f changes nothing; lists of one's own may be handed in where the answer is an atom -/
def cl0 (G : FF) (f : FA) : FD := fun e => (f e).bind fun q => (toDs q.2 q.1).bind fun ds => (G ds).bind fun r => if r.2 = [] ∧ (q.1.all isDr = true ∨ isAt r.1 = true) then some (r.1, q.2) else none
/-- f(x, ..), f may change the list x, a name of one's own -/
def cl1 (G : FF) (f : FA) : FD := fun e => (f e).bind fun q => match q.1 with
  | .o i :: rs => (toD q.2 (.o i)).bind fun d0 => (allD rs).bind fun ds => (G (d0 :: ds)).bind fun r => match r.2 with
    | [d1] => some (r.1, q.2.set i (.own d1))
    | _ => none
  | _ => none
section
variable {X : Cx} {x : Str} {p pos : Pos} {e : Expr} {es : List Expr} {fa : FA} {k n : Nat} {f : Addr} {fd : FuncData} {ps : List Str} {G : FF}
theorem sees_ats {Y : Lay} {F : Fr} {σ : St} {H : Hp} {env : En} (R1 : Rel Y F σ H env) : ∀ {vs : List V} {rs : List R} {ds : List Dt}, RAts Y F σ env H vs rs → toDs env rs = some ds → Ats Y (hide F.O0 H) vs ds
  | _, _, _, .nil, q => by cases q; exact .nil
  | _, _, _, .cons h k, q => by
    obtain ⟨d, q1, q⟩ := Option.bind_eq_some_iff.mp q
    obtain ⟨ds, q2, q⟩ := Option.bind_eq_some_iff.mp q
    cases q
    exact .cons (h.see R1 q1) (sees_ats R1 k q2)
theorem allD_of : ∀ {rs : List R} {env : En} {ds : List Dt}, rs.all isDr = true → toDs env rs = some ds → allD rs = some ds
  | [], _, _, _, q => q
  | .d d :: rs, env, _, h, q => by
    obtain ⟨d', q1, q⟩ := Option.bind_eq_some_iff.mp q
    obtain ⟨ds, q2, q⟩ := Option.bind_eq_some_iff.mp q
    cases q
    cases q1
    show (allD rs).bind _ = _
    rw [allD_of (by simpa [isDr] using h) q2]
    rfl
  | .o i :: rs, _, _, h, _ => by simp [isDr] at h
theorem call0_use {Y : Lay} (hn : ∀ ds r, G ds = some r → ds.length = n) {E : XK} : ∀ σ H Q, tD Y (cl0 G fa) σ H Q → tCall (spD Y n G) [] E (tA Y fa) σ H Q := fun σ H Q q => by
  obtain ⟨F, env, d, env', R0, hf, k⟩ := q
  obtain ⟨⟨rs, e1⟩, h1, hf⟩ := Option.bind_eq_some_iff.mp hf
  obtain ⟨ds, h2, hf⟩ := Option.bind_eq_some_iff.mp hf
  obtain ⟨⟨d', ms⟩, h3, hf⟩ := Option.bind_eq_some_iff.mp hf
  split at hf
  · rename_i hz
    cases hf
    obtain ⟨hz0, hz⟩ := hz
    have hz0' : ms = [] := hz0
    subst hz0'
    refine ⟨F, env, rs, _, R0, h1, fun vs H1 R1 kd s a => ?_⟩
    show spD Y n G (vs ++ []) H1 Q E
    rw [List.append_nil]
    rcases hz with hz | hz
    · have ha := a.ats (allD_of hz h2)
      refine ⟨Ow F σ e1, [], vs, [], ds, _, [], fun a z => R1.ow_there z, List.nodup_nil, fun _ z => absurd z (by simp), rfl, by rw [ha.length]; exact hn _ _ h3, .nil, ?_, h3, rfl, fun v H' sm _ av => ?_⟩
      · exact ha.mono (hide_sub fun a z => z.elim id fun w => absurd w (by simp))
      · have sm' : Same H1 H' := fun a o e => sm a o e (by simp)
        exact k v H' (R1.same sm') kd (s.trans (Stp.of sm')) (av.mono (hide_sub fun a z => .inl z))
    · have ha := sees_ats R1 a h2
      refine ⟨F.O0, [], vs, [], ds, _, [], fun a z => R1.ow_there (.inl z), List.nodup_nil, fun _ z => absurd z (by simp), rfl, by rw [ha.length]; exact hn _ _ h3, .nil, ?_, h3, rfl, fun v H' sm _ av => ?_⟩
      · exact ha.mono (hide_sub fun a z => z.elim id fun w => absurd w (by simp))
      · have sm' : Same H1 H' := fun a o e => sm a o e (by simp)
        exact k v H' (R1.same sm') kd (s.trans (Stp.of sm')) (av.atom hz)
  · cases hf
theorem d_call0 (Fn : FnOk X.prog X.w X.K X.mg X.base CX0 k f fd ps (spD X.lay n G)) (hr : Room k X.A) (hm : X.mg x = some (.ref f)) (hk : PySem.W.keepIn X.K (.ref f) = true) (hb : Binds X.K fd ps []) (hn : ∀ ds r, G ds = some r → ds.length = n) (ha : PAs X (e :: es) fa)
    (hg : Gl X x := by rfl) (hdb : (x == ("__debug__" : Str)) = false := by decide) (he : starEach (e :: es) X.env = (false, eval e X.env) :: starEach es X.env := by rfl) (hpl : (backTo pos (starEach es X.env)).any (·.1) = false := by rfl) :
    PD X (.Call (.Name x p) (e :: es) [] pos) (cl0 G fa) := (pe_call (E := E0) Fn hr hg hm hk hb .nil pass0 ha hdb he hpl).imp (call0_use hn)
theorem call1_use {Y : Lay} (hn : ∀ ds r, G ds = some r → ds.length = n) {E : XK} : ∀ σ H Q, tD Y (cl1 G fa) σ H Q → tCall (spD Y n G) [] E (tA Y fa) σ H Q := fun σ H Q q => by
  obtain ⟨F, env, d, env', R0, hf, k⟩ := q
  obtain ⟨⟨rs, e1⟩, h1, hf⟩ := Option.bind_eq_some_iff.mp hf
  refine ⟨F, env, rs, _, R0, h1, fun vs H1 R1 kd s a => ?_⟩
  show spD Y n G (vs ++ []) H1 Q E
  rw [List.append_nil]
  cases a with
  | nil => cases hf
  | cons a0 a =>
    rename_i v0 vs r0 rs
    cases r0 with
    | d _ => cases hf
    | o i =>
      obtain ⟨d0, h2, hf⟩ := Option.bind_eq_some_iff.mp hf
      obtain ⟨ds, h3, hf⟩ := Option.bind_eq_some_iff.mp hf
      obtain ⟨⟨d', ms⟩, h4, hf⟩ := Option.bind_eq_some_iff.mp hf
      obtain ⟨g1, dd, g2⟩ := a0
      have e0 : dd = d0 := by
        have z : toD e1 (R.o i) = some dd := by
          show (match e1[i]? with | some (.own d) => some d | _ => none) = some dd
          rw [g2]
        have h2' : toD e1 (R.o i) = some d0 := h2
        rw [z] at h2'
        exact Option.some.inj h2'
      subst e0
      obtain ⟨b, g3, g4, g5⟩ := R1.own i dd g2
      rw [g1] at g3
      cases g3
      have ha := a.ats h3
      have ob : Ow F σ e1 b := .inr ⟨i, dd, g2, g1⟩
      have eqO : (fun a => (Ow F σ e1 a ∧ a ≠ b) ∨ a ∈ [b]) = Ow F σ e1 := by
        funext a
        apply propext
        constructor
        · rintro (z | z)
          · exact z.1
          · rw [List.mem_singleton.mp z]; exact ob
        · intro z
          by_cases e : a = b
          · exact .inr (by simp [e])
          · exact .inl ⟨z, e⟩
      cases ms with
      | nil => cases hf
      | cons d1 ms =>
        cases ms with
        | cons _ _ => cases hf
        | nil =>
          cases hf
          refine ⟨fun a => Ow F σ e1 a ∧ a ≠ b, [b], vs, [dd], ds, _, [d1], fun a z => R1.ow_there z.1, by simp, fun a z => by rw [List.mem_singleton.mp z]; exact fun w => w.2 rfl, rfl, ?_, ?_, ?_, h4, rfl, fun v H' sm ho av => ?_⟩
          · have := hn _ _ h4
            have hl := ha.length
            simp only [List.length_cons] at this ⊢
            omega
          · rw [eqO]; exact .cons g4 .nil
          · rw [eqO]; exact ha
          · rw [eqO] at ho av
            obtain ⟨R2, kd2, s2⟩ := R1.write (H' := H') (d' := d1) g2 g1 (fun a o hne h => sm a o h (by simp [hne])) (fun _ => by
              cases ho with
              | cons ho _ => exact ho)
            refine k v H' R2 (kd.trans kd2) (s.trans s2) ?_
            rw [← kd2.ow]
            exact av
theorem d_call1 (Fn : FnOk X.prog X.w X.K X.mg X.base CX0 k f fd ps (spD X.lay n G)) (hr : Room k X.A) (hm : X.mg x = some (.ref f)) (hk : PySem.W.keepIn X.K (.ref f) = true) (hb : Binds X.K fd ps []) (hn : ∀ ds r, G ds = some r → ds.length = n) (ha : PAs X (e :: es) fa)
    (hg : Gl X x := by rfl) (hdb : (x == ("__debug__" : Str)) = false := by decide) (he : starEach (e :: es) X.env = (false, eval e X.env) :: starEach es X.env := by rfl) (hpl : (backTo pos (starEach es X.env)).any (·.1) = false := by rfl) :
    PD X (.Call (.Name x p) (e :: es) [] pos) (cl1 G fa) := (pe_call (E := E0) Fn hr hg hm hk hb .nil pass0 ha hdb he hpl).imp (call1_use hn)
end
end DL

set_option Elab.async false
set_option linter.all false
set_option maxRecDepth 100000
set_option autoImplicit true
/-! DL8: isinstance; several names at once; lists of one's own changed. -/
namespace DL
open PySem L2

/-! ### isinstance -/
def tyN : Dt → Option String
  | .none => some "NoneType"
  | .bool _ => some "bool"
  | .int _ => some "int"
  | .str _ => some "str"
  | .list _ => some "list"
  | .tuple _ => some "tuple"
  | .dict _ => none
theorem See.tyX {Y : Lay} {O : Addr → Prop} {H : Hp} {x : V} {d : Dt} {T : String} (h : See Y O H x d) (e : tyN d = some T) : TyX Y.K H x (.type T) := by
  cases d with
  | none => cases e; rw [h.non]; exact .base .non
  | bool b => cases e; rw [h.bl]; exact .base (.bl b)
  | int b => cases e; rw [h.int]; exact .base (.int b)
  | str b => cases e; rw [h.str]; exact .base (.str b)
  | list b =>
    cases e
    obtain ⟨a, vs, rfl, ha, _⟩ := h.lst
    exact .base (.lst ha)
  | tuple b =>
    cases e
    obtain ⟨a, vs, rfl, ha, _⟩ := h.tup
    rcases ha with (ha | ⟨o, ha⟩) | ⟨o, its, n, h1, h2, _⟩
    · exact .base (.tup ha)
    · exact .fTuple ha
    · exact .kTuple h1 h2
  | dict b => cases e
def isInt : Dt → Option Bool
  | .int _ => some true
  | .bool _ => some true
  | .dict _ => none
  | _ => some false
def isBool : Dt → Option Bool
  | .bool _ => some true
  | .dict _ => none
  | _ => some false
def isStr : Dt → Option Bool
  | .str _ => some true
  | .dict _ => none
  | _ => some false
def isTup : Dt → Option Bool
  | .tuple _ => some true
  | .dict _ => none
  | _ => some false
def isLst : Dt → Option Bool
  | .list _ => some true
  | .dict _ => none
  | _ => some false
def isLT : Dt → Option Bool
  | .list _ => some true
  | .tuple _ => some true
  | .dict _ => none
  | _ => some false
/-- p is what isinstance(x, T) says -/
def IsiOf (T : String) (p : Dt → Option Bool) : Prop := ∀ d b, p d = some b → ∃ t, tyN d = some t ∧ kitB t T = some b
def IsiOf2 (T U : String) (p : Dt → Option Bool) : Prop := ∀ (K : PySem.W.Frag) d b, p d = some b → ∃ t, tyN d = some t ∧ PySem.W.kitAny K (.type t) [.type T, .type U] = some b
theorem isi_int : IsiOf "int" isInt := fun d b h => by
  cases d <;> cases h <;> exact ⟨_, rfl, by decide +kernel⟩
theorem isi_bool : IsiOf "bool" isBool := fun d b h => by
  cases d <;> cases h <;> exact ⟨_, rfl, by decide +kernel⟩
theorem isi_str : IsiOf "str" isStr := fun d b h => by
  cases d <;> cases h <;> exact ⟨_, rfl, by decide +kernel⟩
theorem isi_tup : IsiOf "tuple" isTup := fun d b h => by
  cases d <;> cases h <;> exact ⟨_, rfl, by decide +kernel⟩
theorem isi_list : IsiOf "list" isLst := fun d b h => by
  cases d <;> cases h <;> exact ⟨_, rfl, by decide +kernel⟩
theorem kit2 {K : PySem.W.Frag} {t T U : String} {b b' r : Bool} (h : kitB t T = some b) (h' : kitB t U = some b') (e : r = (b || b')) : PySem.W.kitAny K (.type t) [.type T, .type U] = some r := by
  refine kitAny_cons (kit_ty h) (fun z => kitAny_cons (kit_ty h') (fun z' => ?_) fun z' => ?_) fun z => ?_
  · rw [e, z, z']; exact kitAny_nil
  · rw [e, z, z']; rfl
  · rw [e, z]; rfl
theorem isi_lt : IsiOf2 "list" "tuple" isLT := fun K d b h => by
  cases d <;> cases h
  · exact ⟨_, rfl, kit2 (b := false) (b' := false) (by decide +kernel) (by decide +kernel) rfl⟩
  · exact ⟨_, rfl, kit2 (b := false) (b' := false) (by decide +kernel) (by decide +kernel) rfl⟩
  · exact ⟨_, rfl, kit2 (b := false) (b' := false) (by decide +kernel) (by decide +kernel) rfl⟩
  · exact ⟨_, rfl, kit2 (b := false) (b' := false) (by decide +kernel) (by decide +kernel) rfl⟩
  · exact ⟨_, rfl, kit2 (b := true) (b' := false) (by decide +kernel) (by decide +kernel) rfl⟩
  · exact ⟨_, rfl, kit2 (b := false) (b' := true) (by decide +kernel) (by decide +kernel) rfl⟩
def isiD (p : Dt → Option Bool) (f : FV) : FD := fun e => (f e).bind fun q => (toD q.2 q.1).bind fun d => (p d).bind fun b => some (.bool b, q.2)
section
variable {X : Cx} {a : Expr} {fa : FV} {T U : String} {x y : Str} {p1 p2 p3 pos pt : Pos} {p : Dt → Option Bool}
theorem d_isi (hp : IsiOf T p) (ha : PV X a fa) (hm : X.mg "isinstance" = none) (hmx : X.mg x = none) (hv : bootBuiltins x = some (.type T) := by decide +kernel) (hg : Gl X "isinstance" := by rfl) (hgx : Gl X x := by rfl) (hn : x ≠ "__name__" := by decide) (hd : (x == ("__debug__" : Str)) = false := by decide)
    (hs : starEach [a, .Name x p2] X.env = (false, eval a X.env) :: starEach [.Name x p2] X.env := by rfl) (hs2 : starEach [.Name x p2] X.env = (false, eval (.Name x p2) X.env) :: starEach [] X.env := by rfl) (hpl : (backTo pos (starEach [.Name x p2] X.env)).any (·.1) = false := by rfl) :
    PD X (.Call (.Name "isinstance" p1) [a, .Name x p2] [] pos) (isiD p fa) :=
  (pe_callB call_isi hg hm (by decide +kernel) (pa_cons ha (pa_cons (pe_bltn (v := .ty T) hgx hmx hv rfl hn hd) pa_nil hs2) hs) (by decide) (by decide) hs hpl).imp fun σ H Q q => by
    obtain ⟨F, env, d, env', R0, hf, k⟩ := q
    obtain ⟨⟨r, e1⟩, h1, hf⟩ := Option.bind_eq_some_iff.mp hf
    obtain ⟨z, h2, hf⟩ := Option.bind_eq_some_iff.mp hf
    obtain ⟨b, h3, hf⟩ := Option.bind_eq_some_iff.mp hf
    cases hf
    refine ⟨F, env, r, e1, R0, h1, fun v H1 R1 kd s a1 => ?_⟩
    obtain ⟨t, h4, h5⟩ := hp z b h3
    exact ⟨v, .ty T, .type t, .type T, b, rfl, .ty T, (a1.see' R1 h2).tyX h4, kit_ty h5, k _ H1 R1 kd s (.bl _)⟩
theorem d_isi2 {kt : Nat} (hp : IsiOf2 T U p) (ha : PV X a fa) (hm : X.mg "isinstance" = none) (hmx : X.mg x = none) (hmy : X.mg y = none) (hv : bootBuiltins x = some (.type T) := by decide +kernel) (hw : bootBuiltins y = some (.type U) := by decide +kernel) (hg : Gl X "isinstance" := by rfl) (hgx : Gl X x := by rfl) (hgy : Gl X y := by rfl)
    (hn : x ≠ "__name__" := by decide) (hd : (x == ("__debug__" : Str)) = false := by decide) (hn' : y ≠ "__name__" := by decide) (hd' : (y == ("__debug__" : Str)) = false := by decide)
    (hs : starEach [a, .Tuple [.Name x p2, .Name y p3] kt pt] X.env = (false, eval a X.env) :: starEach [.Tuple [.Name x p2, .Name y p3] kt pt] X.env := by rfl) (hs2 : starEach [.Tuple [.Name x p2, .Name y p3] kt pt] X.env = (false, eval (.Tuple [.Name x p2, .Name y p3] kt pt) X.env) :: starEach [] X.env := by rfl)
    (hs3 : starEach [.Name x p2, .Name y p3] X.env = (false, eval (.Name x p2) X.env) :: starEach [.Name y p3] X.env := by rfl) (hs4 : starEach [.Name y p3] X.env = (false, eval (.Name y p3) X.env) :: starEach [] X.env := by rfl) (hpl : (backTo pos (starEach [.Tuple [.Name x p2, .Name y p3] kt pt] X.env)).any (·.1) = false := by rfl) :
    PD X (.Call (.Name "isinstance" p1) [a, .Tuple [.Name x p2, .Name y p3] kt pt] [] pos) (isiD p fa) :=
  (pe_callB call_isiT hg hm (by decide +kernel) (pa_cons ha (pa_cons (pe_tup (pa_cons (pe_bltn (v := .ty T) hgx hmx hv rfl hn hd) (pa_cons (pe_bltn (v := .ty U) hgy hmy hw rfl hn' hd') pa_nil hs4) hs3)) pa_nil hs2) hs) (by decide) (by decide) hs hpl).imp fun σ H Q q => by
    obtain ⟨F, env, d, env', R0, hf, k⟩ := q
    obtain ⟨⟨r, e1⟩, h1, hf⟩ := Option.bind_eq_some_iff.mp hf
    obtain ⟨z, h2, hf⟩ := Option.bind_eq_some_iff.mp hf
    obtain ⟨b, h3, hf⟩ := Option.bind_eq_some_iff.mp hf
    cases hf
    refine ⟨F, env, r, e1, R0, h1, fun v H1 R1 kd s a1 => ⟨by show 2 ≤ sizeLine; decide, fun p np => ?_⟩⟩
    have sm : Same H1 (upd H1 p (.tup [.ty T, .ty U])) := same_upd np
    have R2 := R1.same sm
    obtain ⟨t, h4, h5⟩ := hp X.K z b h3
    exact ⟨v, p, [.ty T, .ty U], .type t, [.type T, .type U], b, rfl, upd_same, .cons (.ty T) (.cons (.ty U) .nil), ((a1.step (Kd.refl _) (Stp.of sm)).see' R2 h2).tyX h4, h5, k _ _ R2 kd (s.trans (Stp.of sm)) (.bl _)⟩
end

/-! ### several values at once, new objects among them -/
inductive Itm | d (d : Dt) | f (d : Dt)
abbrev FM := En → Option (List Itm × En)
inductive Mat (Y : Lay) (O : Addr → Prop) (H : Hp) : Fr → Fr → List V → List Itm → Prop
  | nil {F : Fr} : Mat Y O H F F [] []
  | d {F F' : Fr} {v : V} {vs : List V} {d : Dt} {is : List Itm} : At Y (hide O H) v d → Mat Y O H F F' vs is → Mat Y O H F F' (v :: vs) (.d d :: is)
  | f {F F' : Fr} {p : Addr} {o : HO} {vs : List V} {d : Dt} {is : List Itm} : ¬ F.O0 p → F.H0 p = none → OwnAt Y (hide O H) H p d → Mat Y O H (F.plus p o) F' vs is → Mat Y O H F F' (.ref p :: vs) (.f d :: is)
theorem Mat.ext {Y : Lay} {O : Addr → Prop} {H : Hp} : ∀ {F F' : Fr} {vs : List V} {is : List Itm}, Mat Y O H F F' vs is → F'.ms = F.ms ∧ ∀ a u, F.H0 a = some u → F'.H0 a = some u
  | _, _, _, _, .nil => ⟨rfl, fun _ _ h => h⟩
  | _, _, _, _, .d _ k => Mat.ext k
  | _, _, _, _, .f _ h0 _ k => by
    obtain ⟨h1, h2⟩ := Mat.ext k
    exact ⟨h1, fun a u h => h2 a u (show upd _ _ _ a = some u by rw [upd_ne (ne_of_none h h0)]; exact h)⟩
theorem Mat.mono {Y : Lay} {O O' : Addr → Prop} {H H' : Hp} (s : Same (hide O H) (hide O' H')) : ∀ {F F' : Fr} {vs : List V} {is : List Itm}, (∀ a o, F'.H0 a = some o → F.H0 a = none → H a = some o → H' a = some o) → Mat Y O H F F' vs is → Mat Y O H F F' vs is := fun _ h => h
def tM (Y : Lay) (f : FM) : TA := fun σ H Q => ∃ F env is env', Rel Y F σ H env ∧ f env = some (is, env') ∧ ∀ vs H' F', Rel Y F' σ H' env' → Kd env env' → Stp (Ow F σ env) H (Ow F' σ env') H' → Mat Y (Ow F' σ env') H' F F' vs is → Q vs H'
abbrev PM (X : Cx) (es : List Expr) (f : FM) : Prop := PA X es (tM X.lay f)
def mN : FM := fun e => some ([], e)
def mD (f : FD) (g : FM) : FM := fun e => (f e).bind fun p => (g p.2).bind fun q => some (.d p.1 :: q.1, q.2)
def mF (f : FD) (g : FM) : FM := fun e => (f e).bind fun p => (g p.2).bind fun q => some (.f p.1 :: q.1, q.2)
section
variable {X : Cx} {e : Expr} {es : List Expr}
theorem m_n : PM X [] mN := PA.imp pa_nil fun σ H Q q => by
  obtain ⟨F, env, is, env', R0, hf, k⟩ := q
  cases hf
  exact k [] H F R0 (Kd.refl _) Stp.refl .nil
theorem m_d {f : FD} {g : FM} (ha : PD X e f) (hr : PM X es g) (hs : starEach (e :: es) X.env = (false, eval e X.env) :: starEach es X.env := by rfl) : PM X (e :: es) (mD f g) := PA.imp (pa_cons ha hr hs) fun σ H Q q => by
  obtain ⟨F, env, is, env', R0, hf, k⟩ := q
  obtain ⟨⟨d, e1⟩, h1, hf⟩ := Option.bind_eq_some_iff.mp hf
  obtain ⟨⟨js, e2⟩, h2, hf⟩ := Option.bind_eq_some_iff.mp hf
  cases hf
  exact ⟨F, env, d, e1, R0, h1, fun v H1 R1 kd1 s1 a1 => ⟨F, e1, js, _, R1, h2, fun vs H2 F' R2 kd2 s2 a2 => k (v :: vs) H2 F' R2 (kd1.trans kd2) (s1.trans s2) (.d (a1.mono s2.same) a2)⟩⟩
theorem m_f {f : FD} {g : FM} (ha : PF X e f) (hr : PM X es g) (hs : starEach (e :: es) X.env = (false, eval e X.env) :: starEach es X.env := by rfl) : PM X (e :: es) (mF f g) := PA.imp (pa_cons ha hr hs) fun σ H Q q => by
  obtain ⟨F, env, is, env', R0, hf, k⟩ := q
  obtain ⟨⟨d, e1⟩, h1, hf⟩ := Option.bind_eq_some_iff.mp hf
  obtain ⟨⟨js, e2⟩, h2, hf⟩ := Option.bind_eq_some_iff.mp hf
  cases hf
  refine ⟨F, env, d, e1, R0, h1, fun p o H1 hp R1 kd1 s1 a1 => ⟨F.plus p o, e1, js, _, R1, h2, fun vs H2 F' R2 kd2 s2 a2 => ?_⟩⟩
  refine k (.ref p :: vs) H2 F' R2 (kd1.trans kd2) (s1.trans s2) (.f (fun z => R0.fresh hp (.inl z)) (R0.fresh0 hp) (a1.mono s2.same fun u z => ?_) a2)
  obtain ⟨hm, hx⟩ := a2.ext
  have h3 : (F.plus p o).H0 p = some o := show upd F.H0 p o p = some o from upd_same
  have h5 : p ∉ F.ms := fun z => by
    obtain ⟨u, q⟩ := R0.ms_there z
    rw [hp] at q; cases q
  have h4 : H1 p = some o := R1.keep p o h3 h5
  have h6 := R2.keep p o (hx p o h3) (by rw [hm]; exact h5)
  rw [h4] at z
  cases z
  exact h6
end
/-- the names' new values, from the right -/
def setM : List Nat → List Itm → En → Option En
  | [], [], e => some e
  | i :: is, .d d :: xs, e => (setM is xs e).bind fun e' => some (e'.set i (.dat d))
  | i :: is, .f d :: xs, e => (setM is xs e).bind fun e' => if i < e'.length then some (e'.set i (.own d)) else none
  | _, _, _ => none
def setV : List Nat → List V → St → St
  | i :: is, v :: vs, σ => setV is vs (σ.set i (some v))
  | _, _, σ => σ
theorem setV_comm {i : Nat} {x : Option V} : ∀ {is : List Nat} {vs : List V} {σ : St}, i ∉ is → setV is vs (σ.set i x) = (setV is vs σ).set i x
  | [], _, _, _ => rfl
  | _ :: _, [], _, _ => rfl
  | j :: is, v :: vs, σ, h => by
    rw [List.mem_cons, not_or] at h
    show setV is vs ((σ.set i x).set j (some v)) = _
    rw [List.set_comm _ _ h.1, setV_comm h.2]
    rfl
theorem setM_rel {Y : Lay} {σ : St} {env : En} {H : Hp} : ∀ {is : List Nat} {xs : List Itm} {vs : List V} {F F' : Fr} {e : En}, is.Nodup → (∀ i ∈ is, F.ms.length ≤ i) → Rel Y F' σ H env → Mat Y (Ow F' σ env) H F F' vs xs → setM is xs env = some e → Rel Y F (setV is vs σ) H e ∧ Stp (Ow F' σ env) H (Ow F (setV is vs σ) e) H ∧ vs.length = is.length
  | [], [], _, _, _, _, _, _, R0, .nil, h => by cases h; exact ⟨R0, Stp.refl, rfl⟩
  | i :: is, .d d :: xs, v :: vs, F, F', e, nd, hm, R0, .d a k, h => by
    obtain ⟨e1, h1, h⟩ := Option.bind_eq_some_iff.mp h
    cases h
    obtain ⟨n1, n2⟩ := List.nodup_cons.mp nd
    obtain ⟨R1, s1, hl⟩ := setM_rel n2 (fun j hj => hm j (List.mem_cons_of_mem _ hj)) R0 k h1
    obtain ⟨R2, s2⟩ := R1.set (hm i List.mem_cons_self) (a.mono s1.same)
    have ev : setV (i :: is) (v :: vs) σ = (setV is vs σ).set i (some v) := setV_comm n1
    rw [ev]
    exact ⟨R2, s1.trans s2, by simp [hl]⟩
  | i :: is, .f d :: xs, .ref p :: vs, F, F', e, nd, hm, R0, @Mat.f _ _ _ _ _ _ o _ _ _ n0 h0 a k, h => by
    obtain ⟨e1, h1, h⟩ := Option.bind_eq_some_iff.mp h
    split at h
    · rename_i hlt
      cases h
      obtain ⟨n1, n2⟩ := List.nodup_cons.mp nd
      obtain ⟨R1, s1, hl⟩ := setM_rel (F := F.plus p o) n2 (fun j hj => hm j (List.mem_cons_of_mem _ hj)) R0 k h1
      obtain ⟨R2, s2⟩ := R1.setOwn (hm i List.mem_cons_self) hlt h0 n0 (a.mono s1.same fun _ z => z)
      have ev : setV (i :: is) (.ref p :: vs) σ = (setV is vs σ).set i (some (.ref p)) := setV_comm n1
      rw [ev]
      exact ⟨R2, s1.trans s2, by simp [hl]⟩
    · cases h
  | [], _ :: _, _, _, _, _, _, _, _, _, h => by cases h
  | _ :: _, [], _, _, _, _, _, _, _, _, h => by cases h
def parS (is : List Nat) (f : FM) : FS := fun e => (f e).bind fun p => (setM is p.1 p.2).bind fun e' => some (.nx e')
section
variable {X : Cx} {m : Nat}
theorem par_use {Y : Lay} {is : List Nat} {f : FM} (nd : is.Nodup) (hms : ∀ i ∈ is, m ≤ i) : ∀ D σ H, tS Y m (parS is f) D σ H → tM Y f σ H fun vs H1 => vs.length = is.length ∧ D.nx (setV is vs σ) H1 := fun D σ H q => by
  obtain ⟨F, env, out, hm, R0, hf, k⟩ := q
  obtain ⟨⟨xs, e1⟩, h1, hf⟩ := Option.bind_eq_some_iff.mp hf
  obtain ⟨e2, h2, hf⟩ := Option.bind_eq_some_iff.mp hf
  cases hf
  refine ⟨F, env, xs, e1, R0, h1, fun vs H1 F' R1 kd s a => ?_⟩
  obtain ⟨R2, s2, hl⟩ := setM_rel nd (fun i hi => by have := hms i hi; omega) R1 a h2
  exact ⟨hl, k _ H1 R2 (s.trans s2)⟩
/-- a, b = x, y -/
theorem z_par2 {i j : Nat} {x y : Str} {a b : Expr} {f : FM} {px py pt pos : Pos} {kt k2 pt2} (hc : X.calm = true) (hN : X.N.Nodup) (ha : PM X [a, b] f) (hi : X.N[i]? = some x := by rfl) (hj : X.N[j]? = some y := by rfl) (nd : [i, j].Nodup := by decide) (hms : ∀ i' ∈ [i, j], m ≤ i' := by decide)
    (hx : X.env.scope.names.lookup x = some .local := by rfl) (hy : X.env.scope.names.lookup y = some .local := by rfl)
    (hw : swappedStores [.Tuple [.Name x px, .Name y py] kt pt] (.Tuple [a, b] k2 pt2) X.env = pure (some [x, y]) := by rfl)
    (hs : swapsWithSole [.Tuple [.Name x px, .Name y py] kt pt] (.Tuple [a, b] k2 pt2) pos.line X.env = pure false := by rfl) :
    PZ X m (.Assign [.Tuple [.Name x px, .Name y py] kt pt] (.Tuple [a, b] k2 pt2) pos) (parS [i, j] f) := by
  have hij : i ≠ j := by
    intro z
    subst z
    exact absurd nd (by simp)
  refine (ps_par (i := i) (j := j) hc hN hi hj hij hx hy ha hw hs).imp fun D σ H q => ?_
  obtain ⟨F, env, is, e1, R0, h1, k⟩ := par_use nd hms D σ H q
  refine ⟨F, env, is, e1, R0, h1, fun vs H1 F' R1 kd s a => ?_⟩
  obtain ⟨hl, q⟩ := k vs H1 F' R1 kd s a
  match vs, hl, q with
  | [v, w], _, q => exact ⟨v, w, rfl, q⟩
/-- a tuple's names, one after another -/
def gNames : List Nat → TGs
  | [] => gNil
  | i :: is => gCons (gName i) (gNames is)
theorem gNames_use {H : Hp} {Q : St → Hp → Prop} : ∀ {is : List Nat} {vs : List V} {σ : St}, vs.length = is.length → Q (setV is vs σ) H → gNames is vs σ H Q
  | [], [], _, _, q => ⟨rfl, q⟩
  | i :: is, v :: vs, σ, hl, q => ⟨v, vs, rfl, gNames_use (by simpa using hl) q⟩
  | [], _ :: _, _, hl, _ => by simp at hl
  | _ :: _, [], _, hl, _ => by simp at hl
theorem ns_n : PGs X [] (gNames []) := pgs_nil
theorem ns_c (i : Nat) {x : Str} {pos : Pos} {es : List Expr} {is : List Nat} (hN : X.N.Nodup) (h : PGs X es (gNames is)) (hi : X.N[i]? = some x := by rfl) (hx : Loc X.env.scope x := by first | exact Or.inl rfl | exact Or.inr rfl) (hf : X.fn x = true ∨ X.env.scope.names.lookup x = some .local := by first | exact .inl rfl | exact .inr rfl)
    (hs : (assignEach (.Name x pos :: es) X.env).map (·.2) = assign (.Name x pos) X.env :: (assignEach es X.env).map (·.2) := by rfl) : PGs X (.Name x pos :: es) (gNames (i :: is)) := pgs_cons (pg_name hN hi hx hf) h hs
/-- a, b, .. = x, y, .. by way of a tuple -/
theorem z_parT {is : List Nat} {ts es : List Expr} {f : FM} {pt pos : Pos} {kt k2 n : Nat} {pt2 : Pos} (hc : X.calm = true) (ha : PM X es f) (hg : PGs X ts (gNames is)) (nd : is.Nodup := by decide) (hms : ∀ i' ∈ is, m ≤ i' := by decide) (hn : is.length = n := by rfl) (hle : n ≤ 1000 := by decide)
    (hn2 : (assignEach ts X.env).length = n := by rfl) (hst : (assignEach ts X.env).findIdx? (·.1) = none := by rfl)
    (hs : swapsWithSole [.Tuple ts kt pt] (.Tuple es k2 pt2) pos.line X.env = pure false := by rfl) (hw : swappedStores [.Tuple ts kt pt] (.Tuple es k2 pt2) X.env = pure none := by rfl) (h1 : (assignEach [.Tuple ts kt pt] X.env).map (·.2) = [assign (.Tuple ts kt pt) X.env] := by rfl) :
    PZ X m (.Assign [.Tuple ts kt pt] (.Tuple es k2 pt2) pos) (parS is f) := by
  refine (ps_asg (pe_tup ha) (pg_tup hc hg hn2 hst) hs hw h1).imp fun D σ H q => ?_
  obtain ⟨F, env, out, hm, R0, hf, k⟩ := q
  obtain ⟨⟨xs, e1⟩, h1, hf⟩ := Option.bind_eq_some_iff.mp hf
  obtain ⟨e2, h2, hf⟩ := Option.bind_eq_some_iff.mp hf
  cases hf
  refine ⟨F, env, xs, e1, R0, h1, fun vs H1 F' R1 kd s a => ?_⟩
  obtain ⟨R2, s2, hl⟩ := setM_rel nd (fun i hi => by have := hms i hi; omega) R1 a h2
  refine ⟨by rw [hl, hn]; exact le_line (by omega), fun p hp => ⟨p, vs, rfl, SqT.of upd_same, by rw [hl]; exact hn, gNames_use hl ?_⟩⟩
  have sm : Same H1 (upd H1 p (.tup vs)) := same_upd hp
  exact k _ _ (R2.same sm) ((s.trans s2).trans (Stp.of sm))
end
end DL

set_option Elab.async false
set_option linter.all false
set_option maxRecDepth 100000
set_option autoImplicit true
/-! DL9: three names at once; lists of one's own changed. -/
namespace DL
open PySem L2
section
variable {X : Cx} {m : Nat}
theorem z_par3 {i j l : Nat} {x y z : Str} {a b c : Expr} {f : FM} {px py pz pt pos : Pos} {kt k2 pt2} (hc : X.calm = true) (hN : X.N.Nodup) (ha : PM X [a, b, c] f) (hi : X.N[i]? = some x := by rfl) (hj : X.N[j]? = some y := by rfl) (hl : X.N[l]? = some z := by rfl) (nd : [i, j, l].Nodup := by decide) (hms : ∀ i' ∈ [i, j, l], m ≤ i' := by decide)
    (hx : X.env.scope.names.lookup x = some .local := by rfl) (hy : X.env.scope.names.lookup y = some .local := by rfl) (hz : X.env.scope.names.lookup z = some .local := by rfl)
    (hw : swappedStores [.Tuple [.Name x px, .Name y py, .Name z pz] kt pt] (.Tuple [a, b, c] k2 pt2) X.env = pure (some [x, y, z]) := by rfl)
    (hs : swapsWithSole [.Tuple [.Name x px, .Name y py, .Name z pz] kt pt] (.Tuple [a, b, c] k2 pt2) pos.line X.env = pure false := by rfl) :
    PZ X m (.Assign [.Tuple [.Name x px, .Name y py, .Name z pz] kt pt] (.Tuple [a, b, c] k2 pt2) pos) (parS [i, j, l] f) := by
  have hij : i ≠ j := by
    intro z
    subst z
    exact absurd nd (by simp)
  have hil : i ≠ l := by
    intro z
    subst z
    exact absurd nd (by simp)
  have hjl : j ≠ l := by
    intro z
    subst z
    exact absurd nd (by simp)
  refine (ps_par3 (i := i) (j := j) (l := l) hc hN hi hj hl hij hil hjl hx hy hz ha hw hs).imp fun D σ H q => ?_
  obtain ⟨F, env, is, e1, R0, h1, k⟩ := par_use nd hms D σ H q
  refine ⟨F, env, is, e1, R0, h1, fun vs H1 F' R1 kd s a => ?_⟩
  obtain ⟨hl, q⟩ := k vs H1 F' R1 kd s a
  match vs, hl, q with
  | [v, w, u], _, q => exact ⟨v, w, u, rfl, q⟩

/-! ### x.append(e), x.pop(), x[i] = e: x a name of one's own -/
def ownL (e : En) (i : Nat) : Option (List Dt) := match e[i]? with
  | some (.own (.list ds)) => some ds
  | _ => none
theorem ownL_some {e : En} {i : Nat} {ds : List Dt} (h : ownL e i = some ds) : e[i]? = some (.own (.list ds)) := by
  unfold ownL at h
  split at h
  · rename_i hc
    cases h
    exact hc
  · cases h
def appD (i : Nat) (f : FD) : FD := fun e => (ownL e i).bind fun _ => (f e).bind fun p => (ownL p.2 i).bind fun ds => if ds.length < sizeLine then some (.none, p.2.set i (.own (.list (ds ++ [p.1])))) else none
def popD (i : Nat) : FD := fun e => (ownL e i).bind fun ds => match ds.getLast? with
  | some d => some (d, e.set i (.own (.list ds.dropLast)))
  | none => none
theorem rel_ownL {Y : Lay} {F : Fr} {σ : St} {H : Hp} {env : En} (R0 : Rel Y F σ H env) {i : Nat} {ds : List Dt} (h : ownL env i = some ds) : ∃ a vs, σ[i]? = some (some (V.ref a)) ∧ H a = some (.lst vs) ∧ Ats Y (hide (Ow F σ env) H) vs ds := by
  obtain ⟨a, h1, h2, _⟩ := R0.own i _ (ownL_some h)
  cases h2 with
  | lst h2 k => exact ⟨a, _, h1, h2, k⟩
/-- the list at i becomes another one -/
theorem Rel.lst {Y : Lay} {F : Fr} {σ : St} {H : Hp} {env : En} (R0 : Rel Y F σ H env) {i : Nat} {a : Addr} {ds ds' : List Dt} {vs' : List V} (h : ownL env i = some ds) (hs : σ[i]? = some (some (V.ref a))) (k : Ats Y (hide (Ow F σ env) H) vs' ds') :
    Rel Y F σ (upd H a (.lst vs')) (env.set i (.own (.list ds'))) ∧ Kd env (env.set i (.own (.list ds'))) ∧ Stp (Ow F σ env) H (Ow F σ (env.set i (.own (.list ds')))) (upd H a (.lst vs')) :=
  R0.write (ownL_some h) hs (fun b o hb e => by rw [upd_ne hb]; exact e) fun sm => .lst upd_same (k.mono sm)
variable {e : Expr} {x : Str} {p apos cpos pos : Pos}
theorem d_app (i : Nat) {f : FD} (he : PD X e f) (hN : X.N[i]? = some x := by rfl) (hv : Vis X.env.scope x := by first | exact Or.inl rfl | exact Or.inr (Or.inl rfl) | exact Or.inr (Or.inr rfl)) (hd : (x == ("__debug__" : Str)) = false := by decide) (hcd : (x == ("__classdict__" : Str)) = false := by decide)
    (hbase : attributeBase (.Name x p) "append" X.env (eval (.Name x p) X.env) = eval (.Name x p) X.env := by rfl)
    (hfew : ((backTo cpos (starEach [e] X.env)).all (fun x => !x.1) && (backToKw cpos (keywordEach [] X.env)).all (fun x => x.1.isSome) && decide ([e].length + ([] : List Keyword).length + (if ([] : List Keyword).isEmpty then 0 else 1) < 30)) = true := by rfl)
    (hline : (apos.endLine == cpos.line) = true := by rfl) (hs : starEach [e] X.env = (false, eval e X.env) :: starEach [] X.env := by rfl) (hplain : (backTo cpos (starEach [] X.env)).any (·.1) = false := by rfl) :
    PD X (.Call (.Attribute (.Name x p) "append" apos) [e] [] cpos) (appD i f) :=
  (pe_bm PySem.F.plainAttrs_list PySem.F.slot_list_append PySem.F.type_list_append mt_append (pe_var hN hv hd hcd) (pa_cons he pa_nil hs) hbase hfew hline hs hplain).imp fun σ H Q q => by
    obtain ⟨F, env, d, env', R0, hf, k⟩ := q
    obtain ⟨ds0, h0, hf⟩ := Option.bind_eq_some_iff.mp hf
    obtain ⟨⟨d, e1⟩, h1, hf⟩ := Option.bind_eq_some_iff.mp hf
    obtain ⟨ds, h2, hf⟩ := Option.bind_eq_some_iff.mp hf
    split at hf
    · rename_i hz
      cases hf
      -- the name holds a list now and when the argument is there
      have own1 := ownL_some h2
      have stay : ∀ {H1 : Hp}, Rel X.lay F σ H1 e1 → ∃ a vs, σ[i]? = some (some (V.ref a)) ∧ H1 a = some (.lst vs) ∧ Ats X.lay (hide (Ow F σ e1) H1) vs ds := fun R => rel_ownL R h2
      have now : ∃ a, σ[i]? = some (some (V.ref a)) ∧ tyV X.K "list" (V.ref a) H := by
        obtain ⟨a, vs, z1, z2, _⟩ := rel_ownL R0 h0
        exact ⟨a, z1, .inl ⟨rfl, vs, SqL.of z2⟩⟩
      obtain ⟨a, g1, g2⟩ := now
      refine ⟨.ref a, g1, g2, F, env, d, e1, R0, h1, fun v H1 R1 kd s av => ?_⟩
      obtain ⟨b, vs, g3, g4, g5⟩ := stay R1
      rw [g1] at g3
      cases g3
      refine ⟨_, vs, v, rfl, rfl, g4, by rw [g5.length]; exact hz, ?_⟩
      obtain ⟨R2, kd2, s2⟩ := R1.lst h2 g1 (g5.append (.cons av .nil))
      exact k _ _ R2 (kd.trans kd2) (s.trans s2) .non
    · cases hf
theorem getLast_app {α : Type} {xs : List α} {y : α} (h : xs.getLast? = some y) : xs[xs.length - 1]? = some y := by
  rw [← h, List.getLast?_eq_getElem?]
theorem Ats.last {Y : Lay} {H : Hp} {vs : List V} {ds : List Dt} {d : Dt} (h : Ats Y H vs ds) (e : ds.getLast? = some d) : ∃ v, vs[vs.length - 1]? = some v ∧ At Y H v d := by
  obtain ⟨v, h1, h2⟩ := h.get (getLast_app e)
  exact ⟨v, by rw [h.length]; exact h1, h2⟩
theorem Ats.dropLast {Y : Lay} {H : Hp} {vs : List V} {ds : List Dt} (h : Ats Y H vs ds) : Ats Y H vs.dropLast ds.dropLast := by
  rw [List.dropLast_eq_take, List.dropLast_eq_take, h.length]
  exact h.take _
theorem d_pop (i : Nat) (hN : X.N[i]? = some x := by rfl) (hv : Vis X.env.scope x := by first | exact Or.inl rfl | exact Or.inr (Or.inl rfl) | exact Or.inr (Or.inr rfl)) (hd : (x == ("__debug__" : Str)) = false := by decide) (hcd : (x == ("__classdict__" : Str)) = false := by decide)
    (hbase : attributeBase (.Name x p) "pop" X.env (eval (.Name x p) X.env) = eval (.Name x p) X.env := by rfl) (hline : (apos.endLine == cpos.line) = true := by rfl) :
    PD X (.Call (.Attribute (.Name x p) "pop" apos) [] [] cpos) (popD i) :=
  (pe_bm0 PySem.F.plainAttrs_list PySem.F.slot_list_pop PySem.F.type_list_pop mt_pop (pe_var hN hv hd hcd) hbase hline).imp fun σ H Q q => by
    obtain ⟨F, env, d, env', R0, hf, k⟩ := q
    obtain ⟨ds, h2, hf⟩ := Option.bind_eq_some_iff.mp hf
    split at hf
    · rename_i d' hl
      cases hf
      obtain ⟨a, vs, g1, g2, g3⟩ := rel_ownL R0 h2
      obtain ⟨v, g4, g5⟩ := g3.last hl
      refine ⟨.ref a, g1, .inl ⟨rfl, vs, SqL.of g2⟩, a, vs, v, rfl, rfl, g2, g4, ?_⟩
      obtain ⟨R2, kd2, s2⟩ := R0.lst h2 g1 g3.dropLast
      refine k v _ R2 kd2 s2 ?_
      rw [← kd2.ow]
      exact g5.mono (by rw [← kd2.ow] at s2; exact s2.same)
    · cases hf
/-- x[k] = e -/
def stS (i : Nat) (f fk : FD) : FS := fun e => (ownL e i).bind fun _ => (f e).bind fun p => (fk p.2).bind fun q => match q.1 with
  | .int j => (ownL q.2 i).bind fun ds => (ixN ds.length j).bind fun n => some (.nx (q.2.set i (.own (.list (ds.set n p.1)))))
  | _ => none
theorem z_store (i : Nat) {ei : Expr} {f fk : FD} {psub : Pos} (he : PD X e f) (hk : PD X ei fk) (hN : X.N[i]? = some x := by rfl) (hv : Vis X.env.scope x := by first | exact Or.inl rfl | exact Or.inr (Or.inl rfl) | exact Or.inr (Or.inr rfl)) (hd : (x == ("__debug__" : Str)) = false := by decide) (hcd : (x == ("__classdict__" : Str)) = false := by decide)
    (ha : ∀ v, assign (.Subscript (.Name x p) ei psub) X.env v = (do
      let ov ← holding [v] (eval (.Name x p) X.env)
      let iv ← holding [v, ov] (eval ei X.env)
      standAt psub
      holding [v, ov, iv] (setItem ov iv v)
      release [v, ov, iv] []) := by intro _; rfl)
    (hs : swapsWithSole [.Subscript (.Name x p) ei psub] e pos.line X.env = pure false := by rfl) (hw : swappedStores [.Subscript (.Name x p) ei psub] e X.env = pure none := by rfl)
    (h1 : (assignEach [.Subscript (.Name x p) ei psub] X.env).map (·.2) = [assign (.Subscript (.Name x p) ei psub) X.env] := by rfl) :
    PZ X m (.Assign [.Subscript (.Name x p) ei psub] e pos) (stS i f fk) :=
  (ps_asg he (pg_sub (pe_var hN hv hd hcd) hk set_list ha) hs hw h1).imp fun D σ H q => by
    obtain ⟨F, env, out, hm, R0, hf, k⟩ := q
    obtain ⟨ds0, h0, hf⟩ := Option.bind_eq_some_iff.mp hf
    obtain ⟨⟨d, e1⟩, h1, hf⟩ := Option.bind_eq_some_iff.mp hf
    obtain ⟨⟨dk, e2⟩, h2, hf⟩ := Option.bind_eq_some_iff.mp hf
    cases dk with
    | int j =>
      obtain ⟨ds, h3, hf⟩ := Option.bind_eq_some_iff.mp hf
      obtain ⟨n, h4, hf⟩ := Option.bind_eq_some_iff.mp hf
      cases hf
      refine ⟨F, env, d, e1, R0, h1, fun v H1 R1 kd1 s1 a1 => ?_⟩
      -- the name is one of one's own ahead of the index
      have own1 : ∃ a, σ[i]? = some (some (V.ref a)) := by
        obtain ⟨a, _, z, _⟩ := rel_ownL R0 h0
        exact ⟨a, z⟩
      obtain ⟨a, g1⟩ := own1
      refine ⟨.ref a, g1, F, e1, .int j, e2, R1, h2, fun w H2 R2 kd2 s2 a2 => ?_⟩
      cases a2
      obtain ⟨b, vs, g3, g4, g5⟩ := rel_ownL R2 h3
      rw [g1] at g3
      cases g3
      refine ⟨a, vs, j, n, rfl, rfl, g4, by rw [g5.length]; exact h4, ?_⟩
      obtain ⟨R3, kd3, s3⟩ := R2.lst h3 g1 (Ats.set (a1.mono s2.same) n g5)
      exact k σ _ R3 ((s1.trans s2).trans s3)
    | none => cases hf
    | bool _ => cases hf
    | str _ => cases hf
    | list _ => cases hf
    | tuple _ => cases hf
    | dict _ => cases hf
end
end DL

set_option Elab.async false
set_option linter.all false
set_option maxRecDepth 100000
set_option autoImplicit true
/-! DL10: enumerate of tuples. -/
namespace PySem
open Sem (wp)
open AutoSeq1 (wpAny_loadPart')
/-- enumerate(t), t a tuple: its two new objects -/
theorem enumT_meets (l : Addr) (items : Array Value) (n : Nat) (dct : Option Addr) (sl : Array (Option Value)) :
    Meets (Builtin.«enumerate.__new__» ⟨[.type "enumerate", .ref l], []⟩) (fun _ R s => (s.heap.get? l = some { cls := .type "tuple", dict := dct, data := .seq items n, slots := sl }) ∧
      R (.ok (.ret (.ref (s.heap.push { cls := .type "tuple_iterator", data := .fields #[.ref l, .int 0 0] }).objs.size)))
        { s with heap := (s.heap.push { cls := .type "tuple_iterator", data := .fields #[.ref l, .int 0 0] }).push { cls := .type "enumerate", data := .fields #[.none, .bool false, .ref s.heap.objs.size, rawInt 0, .none, .none] } }) := by
  refine Meets.of_wp fun prog w A R s h => ?_
  obtain ⟨hp, g, d, tk, os⟩ := s
  obtain ⟨hl, h⟩ := h
  have hsub := sub_enumerate
  have hT : Heap.IsTuple (Shared.heap ⟨hp, g, d, tk, os⟩) l items := ⟨_, hl, rfl, n, rfl⟩
  wp_walk using wpAny_loadPart' hl
  refine wpAny_stack_any fun st => wpAny_pure ?_
  split
  · rename_i c _ _ _ _ _
    cases (c == Value.type "enumerate") <;> (wp_walk using wpAny_loadPart' hl, wpAny_pyIter_tuple hT) <;> exact ⟨_, rfl, h⟩
  · wp_walk using wpAny_loadPart' hl, wpAny_pyIter_tuple hT
    exact ⟨_, rfl, h⟩
end PySem
namespace PySem
/-- what is left behind enumerate(t) -/
theorem enumT_call {prog : Program} {w : World} {A : Around} {E : Value → Shared → Prop} {s : Shared} {l : Addr} {items : Array Value} {Q : Value → Shared → Prop} (hT : PyProof.Rows.IsTup s.heap l items)
    (h : ∀ h', IsEnum h' (s.heap.objs.size + 1) s.heap.objs.size 0 .none → h'.IsTupleIter s.heap.objs.size l 0 → (∀ b o, s.heap.get? b = some o → h'.get? b = some o) → Q (.ref (s.heap.objs.size + 1)) { s with heap := h' }) :
    wpAny (model prog w) A (call (.type "enumerate") [.ref l]) Q E s := by
  obtain ⟨⟨c, dct, dt, sl⟩, hl, hc, n, hd⟩ := hT
  simp only at hc hd
  subst hc hd
  have big : (s.heap.push { cls := .type "tuple_iterator", data := .fields #[.ref l, .int 0 0] }).objs.size = s.heap.objs.size + 1 := Heap.size_push ..
  refine callType_new F.called_enumerate (by decide) (F.typeCall_enumerate_1 _) (F.newCall_enumerate_1 _) (fun obj => F.args_object_init_2 obj _) F.entry_enumerate_new (enumT_meets l items n dct sl) ⟨hl, ?_⟩
  show _ ∧ _
  rw [big]
  have e1 : IsEnum ((s.heap.push { cls := .type "tuple_iterator", data := .fields #[.ref l, .int 0 0] }).push { cls := .type "enumerate", data := .fields #[.none, .bool false, .ref s.heap.objs.size, rawInt 0, .none, .none] })
      (s.heap.objs.size + 1) s.heap.objs.size 0 .none := by
    have q := Heap.get?_push_size (s.heap.push { cls := .type "tuple_iterator", data := .fields #[.ref l, .int 0 0] }) (o := { cls := .type "enumerate", data := .fields #[.none, .bool false, .ref s.heap.objs.size, rawInt 0, .none, .none] }) rfl
    rw [big] at q
    exact q
  exact ⟨⟨_, e1, rfl⟩, h _ e1 ⟨_, Heap.get?_push_of_some _ (Heap.get?_push_size _ rfl), rfl, rfl⟩ fun b o z => Heap.get?_push_of_some _ (Heap.get?_push_of_some _ z)⟩
end PySem
namespace DL
open PySem L2
/-- a tuple, counted: each item in a new pair -/
def IteT (K : PySem.W.Frag) (a : Addr) : It where
  go := fun i H => ∃ (xs : List V) (x : V), SqT K H a xs ∧ xs[i]? = some x
  yld := fun i H v H' => ∃ T x, v = .ref T ∧ H T = none ∧ H' = upd H T (.tup [.int (i : Nat), x]) ∧ ∀ xs, SqT K H a xs → xs[i]? = some x
  stop := fun i H => ∃ xs : List V, SqT K H a xs ∧ xs.length = i
theorem turnET {P : Program} {w : World} {K : PySem.W.Frag} {elts : List Expr} {kk : Nat} {tpos : Pos} (a e it : Addr) :
    Turn P w K (.Tuple elts kk tpos) (IteT K a) [e, it] e (fun i h => (∃ old, IsEnum h e it ((i : Nat) : Int) old) ∧ h.IsTupleIter it a i ∧ e ≠ it) := by
  refine ⟨by simp, fun i h st b hb => ?_, fun i h h' st k => ?_, ?_, ?_, fun A i s Q E st h => ?_⟩
  · obtain ⟨⟨old, he⟩, ⟨o, ho, hc, hd⟩, _⟩ := st
    rcases (by simpa using hb : b = e ∨ b = it) with rfl | rfl
    · exact ⟨_, he, fun v q => nomatch q⟩
    · exact ⟨o, ho, fun v q => by rw [hd] at q; cases q⟩
  · obtain ⟨⟨old, he⟩, hi, hne⟩ := st
    exact ⟨⟨old, k e (by simp) _ he⟩, hi.at fun o q => k it (by simp) o q, hne⟩
  · intro X hP hw hK hc i pins s σ H E I hf st hg
    subst hP hw hK
    obtain ⟨⟨old, he⟩, hit, hne⟩ := st
    obtain ⟨xs, x, hq, hx⟩ := hg
    obtain ⟨its, rv, p, hz⟩ := I.tuple hq
    obtain ⟨u, hu, ru⟩ := rv.get hx
    have hel : e < s.heap.objs.size := Heap.lt_size he
    have hil : it < s.heap.objs.size := let ⟨_, q, _⟩ := hit; Heap.lt_size q
    have pT : s.heap.IsTuple a its.toArray := p
    have nea : e ≠ a := fun z => by
      obtain ⟨o, ho, hc', _⟩ := pT
      rw [← z, he] at ho
      cases ho
      simp at hc'
    have nia : a ≠ it := fun z => by
      obtain ⟨o, ho, hc', _⟩ := pT
      obtain ⟨o', ho', hc'', _⟩ := hit
      rw [z, ho'] at ho
      cases ho
      rw [hc''] at hc'
      simp at hc'
    have hlt : i < its.toArray.size := by
      have := (List.getElem?_eq_some_iff.mp hu).1
      simpa using this
    refine wpAny_pyNext_enum_itemD (Draws.tuple (A := X.A.in1) (I.ok.hd hc) it a nia its.toArray) he ⟨hit, pT⟩ hlt hne (by simp [hne, nea]) fun y h' tk hy ho st' hT hsz hk => ?_
    have hy' : y = u := by
      have q : its.toArray[i]? = some y := hy
      simp only [List.getElem?_toArray] at q
      rw [hu] at q
      exact (Option.some.inj q).symm
    subst hy'
    refine ⟨_, rfl, wpAny_letOwnedTupleGo_enum (s := { s with heap := h', toks := tk + 1 }) ho fun h'' he' sb => ?_⟩
    have hT2 : h''.get? s.heap.objs.size = some { cls := .type "tuple", data := .seq #[.int i tk, y] } := (sb.2 _ (Nat.ne_of_gt hel)).trans hT
    have new : ObjOk X.prog X.w (upd H s.heap.objs.size (.tup [.int (i : Nat), x])) h'' s.heap.objs.size (.tup [.int (i : Nat), x]) := by
      refine ⟨?_, [.int i tk, y], ?_, ⟨_, hT2, rfl, _, rfl⟩⟩
      · show 2 ≤ sizeLine
        decide
      · exact .cons ⟨_, rfl⟩ (.cons ru .nil)
    have I1 := I.turnedNew (h' := h'') (t' := tk + 1) (ch := [e, it]) (fun b ob hb q => (sb.2 b (fun z => hb (by simp [z]))).trans (hk b ob (fun z => hb (by simp [z])) (fun z => hb (by simp [z])) q)) hf (Nat.le_refl _) new
    refine ⟨.ref s.heap.objs.size, _, I1, rfl, ⟨_, x, rfl, I.hok.fresh (Nat.le_refl _), rfl, fun ys hy => by rw [I.tuple_inj hy hq]; exact hx⟩, ⟨⟨y, ?_⟩, st'.1.at fun o q => (sb.2 it (Ne.symm hne)).trans q, hne⟩, fun b hb => ?_⟩
    · have e1 : ((i + 1 : Nat) : Int) = (i : Int) + 1 := by omega
      rw [e1]
      exact he'
    · have hb' : b ≠ s.heap.objs.size := by
        rcases (by simpa using hb : b = e ∨ b = it) with rfl | rfl
        · exact Nat.ne_of_lt hel
        · exact Nat.ne_of_lt hil
      rw [upd_ne hb']
      exact (hf b hb).1
  · intro X hP hw hK hc i pins s σ H E I hf st hg
    subst hP hw hK
    obtain ⟨⟨old, he⟩, hit, hne⟩ := st
    obtain ⟨xs, hq, hx⟩ := hg
    obtain ⟨its, rv, p, hz⟩ := I.tuple hq
    obtain ⟨f0, f1, f2, f3, f4, f5⟩ := hf it (by simp)
    have hl := rv.length
    have pT : s.heap.IsTuple a its.toArray := p
    have nia : a ≠ it := fun z => by
      obtain ⟨o, ho, hc', _⟩ := pT
      obtain ⟨o', ho', hc'', _⟩ := hit
      rw [z, ho'] at ho
      cases ho
      rw [hc''] at hc'
      simp at hc'
    have en : its.toArray.size = i := by simp; omega
    exact wpAny_pyNext_enum_endD (Draws.tuple (A := X.A.in1) (I.ok.hd hc) it a nia its.toArray) he (by rw [en]; exact ⟨hit, pT⟩) fun h' eb => ⟨rfl, I.turned (t' := s.toks) (fun b o hb q => eb b o hb q) f0 f1 f3 f4 f5⟩
  · obtain ⟨⟨_, he⟩, _⟩ := st
    exact wpAny_pyIter_enum he h
def iEnumT (K : PySem.W.Frag) (ta : TA) : TI := fun σ H R => ta σ H fun vs H1 => ∃ a xs, vs = [.ref a] ∧ SqT K H1 a xs ∧ R (IteT K a) H1
theorem pi_enumT {X : Cx} {e : Expr} {ta : TA} {p pos tpos : Pos} {elts : List Expr} {kk : Nat} (hg : Gl X "enumerate") (hm : X.mg "enumerate" = none) (ha : PA X [e] ta) (hs : starEach [e] X.env = [(false, eval e X.env)] := by rfl) :
    PI X (.Tuple elts kk tpos) (.Call (.Name "enumerate" p) [e] [] pos) (iEnumT X.K ta) := by
  refine ⟨fun pins s σ H R I h => PyProof.Rows.Call_ (ld_blt I hg hm PyProof.Rows.boot_enumerate (PyProof.Rows.callWith_type1 (thn (ha.run pos pins s σ H _ I h) fun us s1 ⟨vs, H1, I1, r1, q1⟩ => ?_) hs rfl))⟩
  obtain ⟨a, xs, ex, hq, q⟩ := q1
  subst ex
  obtain ⟨u, rfl, r⟩ := vals1 r1
  cases r
  obtain ⟨its, rv, p', hz⟩ := I1.tuple hq
  refine enumT_call p' fun h' he hit hk => wpAny_pyIter_enum he ?_
  have I2 : L2.Inv X pins σ H1 { s1 with heap := h' } := I1.kept (t' := s1.toks) hk
  refine ⟨s1.heap.objs.size + 1, [s1.heap.objs.size + 1, s1.heap.objs.size], _, _, H1, rfl, I2, turnET a (s1.heap.objs.size + 1) s1.heap.objs.size, ⟨⟨.none, he⟩, hit, Nat.succ_ne_self _⟩, fun b hb => ?_, q⟩
  have hle : s1.heap.objs.size ≤ b := by
    rcases (by simpa using hb : b = s1.heap.objs.size + 1 ∨ b = s1.heap.objs.size) with z | z
    · rw [z]; exact Nat.le_succ _
    · rw [z]; exact Nat.le_refl _
  exact I1.fpOk hle (I1.hok.fresh hle)
/-! enumerate of a list, of a tuple -/
def enuD (ds : List Dt) (i : Nat) : List Dt := match ds with
  | [] => []
  | d :: ds => .tuple [.int (i : Int), d] :: enuD ds (i + 1)
theorem enuD_len : ∀ (ds : List Dt) (i : Nat), (enuD ds i).length = ds.length
  | [], _ => rfl
  | d :: ds, i => by simp [enuD, enuD_len ds (i + 1)]
theorem enuD_get : ∀ {ds : List Dt} {i j : Nat} {d : Dt}, (enuD ds i)[j]? = some d → ∃ a, ds[j]? = some a ∧ d = .tuple [.int ((i + j : Nat) : Int), a]
  | [], _, _, _, h => by simp [enuD] at h
  | a :: ds, i, 0, d, h => by simp [enuD] at h; exact ⟨a, rfl, by rw [← h]; rfl⟩
  | a :: ds, i, j + 1, d, h => by
    obtain ⟨b, h1, h2⟩ := enuD_get (ds := ds) (i := i + 1) (j := j) (d := d) (by simpa [enuD] using h)
    exact ⟨b, by simpa using h1, by rw [h2]; congr 2; congr 1; omega⟩
def enuI (f : FA) : FI := fun e => (f e).bind fun p => match p.1 with
  | [.d (.list a)] => some (enuD a 0, p.2)
  | [.d (.tuple a)] => some (enuD a 0, p.2)
  | _ => none
theorem i_enum {X : Cx} {e : Expr} {f : FA} {p pos tpos : Pos} {elts : List Expr} {kk : Nat} (hm : X.mg "enumerate" = none) (ha : PAs X [e] f) (hg : Gl X "enumerate" := by rfl) (hs : starEach [e] X.env = [(false, eval e X.env)] := by rfl) :
    PId X (.Tuple elts kk tpos) (.Call (.Name "enumerate" p) [e] [] pos) (enuI f) := (PI.or (pi_enum hg hm ha.bd hs) (pi_enumT hg hm ha.bd hs)).imp fun σ H R q => by
  obtain ⟨F, env, ds, env', R0, hf, k⟩ := q
  obtain ⟨⟨rs, e1⟩, h1, hf⟩ := Option.bind_eq_some_iff.mp hf
  split at hf
  · rename_i as hn
    simp only at hn
    subst hn
    cases hf
    refine .inl ⟨F, env, _, e1, R0, h1, fun vs H1 R1 kd s a bd => ?_⟩
    cases a with
    | cons a as' =>
      cases as'
      cases a with
      | lst ha ka =>
        have ha' := (hide_some.mp ha).2
        refine ⟨_, _, rfl, SqL.of ha', k _ H1 R1 kd s ?_ ?_⟩
        · intro i O' H' st hO
          have g1 := (st _ _ (hide_some.mp ha).1 ha').2
          refine ⟨fun d hd => ?_, fun hl => ⟨_, SqL.of g1, ?_⟩⟩
          · obtain ⟨x, z1, rfl⟩ := enuD_get hd
            obtain ⟨v, hv, av⟩ := ka.get z1
            refine ⟨⟨_, v, SqL.of g1, hv⟩, fun w H'' yy => ?_⟩
            obtain ⟨T, x', rfl, hT, rfl, w1⟩ := yy
            have q1 := w1 _ (SqL.of g1)
            rw [hv] at q1
            cases q1
            rw [Nat.zero_add]
            exact pair_at hO hT (.int _) (av.mono st.same)
          · rw [enuD_len] at hl
            rw [ka.length, hl]
            exact Nat.le_refl _
        · rw [enuD_len, ← ka.length]
          exact bd _ _ (.inl (SqL.of ha'))
  · rename_i as hn
    simp only at hn
    subst hn
    cases hf
    refine .inr ⟨F, env, _, e1, R0, h1, fun vs H1 R1 kd s a bd => ?_⟩
    cases a with
    | cons a as' =>
      cases as'
      cases a with
      | tup ha ka =>
        have ha' := Same.seqT (hide_le _ _) ha
        refine ⟨_, _, rfl, ha', k _ H1 R1 kd s ?_ ?_⟩
        · intro i O' H' st hO
          have g1 := Same.seqT (hide_le _ _) (Same.seqT st.same ha)
          refine ⟨fun d hd => ?_, fun hl => ⟨_, g1, ?_⟩⟩
          · obtain ⟨x, z1, rfl⟩ := enuD_get hd
            obtain ⟨v, hv, av⟩ := ka.get z1
            refine ⟨⟨_, v, g1, hv⟩, fun w H'' yy => ?_⟩
            obtain ⟨T, x', rfl, hT, rfl, w1⟩ := yy
            have q1 := w1 _ g1
            rw [hv] at q1
            cases q1
            rw [Nat.zero_add]
            exact pair_at hO hT (.int _) (av.mono st.same)
          · rw [enuD_len] at hl
            rw [ka.length, hl]
        · rw [enuD_len, ← ka.length]
          exact bd _ _ (.inr ha')
  · cases hf
end DL

set_option Elab.async false
set_option linter.all false
set_option maxRecDepth 100000
set_option autoImplicit true
/-! DL11: dicts with written keys: displays, get. -/
namespace DL
open PySem L2

/-! ### a dict's data: keys by == -/
def putP (ps : List (Dt × Dt)) (k v : Dt) : List (Dt × Dt) := if (ps.any fun p => PyData.eqv p.1 k) = true then ps.map (fun p => if PyData.eqv p.1 k = true then (p.1, v) else p) else ps ++ [(k, v)]
def getP (ps : List (Dt × Dt)) (k : Dt) : Option Dt := (ps.find? fun p => PyData.eqv p.1 k).map (·.2)
def delP (ps : List (Dt × Dt)) (k : Dt) : List (Dt × Dt) := ps.filter fun p => !PyData.eqv p.1 k
def mergeP (ps qs : List (Dt × Dt)) : List (Dt × Dt) := qs.foldl (fun acc p => putP acc p.1 p.2) ps
/-- an int or a text as a key -/
inductive KeyD : Key → Dt → Prop
  | int (i : Int) : KeyD (.inl i) (.int i)
  | str (x : Str) : KeyD (.inr x) (.str x)
theorem KeyD.eqv {k k' : Key} {d d' : Dt} (h : KeyD k d) (h' : KeyD k' d') : PyData.eqv d d' = decide (k = k') := by
  cases h with
  | int i =>
    cases h' with
    | int j => rw [key_ll]; simp only [PyData.eqv]
    | str y => simp only [PyData.eqv]; rfl
  | str x =>
    cases h' with
    | int j => simp only [PyData.eqv]; rfl
    | str y =>
      simp only [PyData.eqv]
      rw [key_rr, Bool.beq_eq_decide_eq]
def keyOf : Dt → Option Key
  | .int i => some (.inl i)
  | .str x => some (.inr x)
  | _ => none
theorem keyOf_some {d : Dt} {k : Key} (h : keyOf d = some k) : KeyD k d := by
  cases d with
  | int i => cases h; exact .int i
  | str x => cases h; exact .str x
  | none => cases h
  | bool _ => cases h
  | list _ => cases h
  | tuple _ => cases h
  | dict _ => cases h
theorem KeyD.at {Y : Lay} {H : Hp} {v : V} {k : Key} {d : Dt} (h : KeyD k d) (a : At Y H v d) : v = kV k := by
  cases h with
  | int i => cases a; rfl
  | str x => cases a; rfl
section
variable {Y : Lay} {H : Hp}
theorem AtK.cons {k : Key} {kd v d} {xs : List (Key × V)} {ps : List (Dt × Dt)} (hk : KeyD k kd) (h : At Y H v d) (t : AtK Y H xs ps) : AtK Y H ((k, v) :: xs) ((kd, d) :: ps) := by
  cases hk with
  | int i => exact .int h t
  | str x => exact .str h t
theorem AtK.uncons {p : Key × V} {q : Dt × Dt} {xs : List (Key × V)} {ps : List (Dt × Dt)} (h : AtK Y H (p :: xs) (q :: ps)) : KeyD p.1 q.1 ∧ At Y H p.2 q.2 ∧ AtK Y H xs ps := by
  cases h with
  | int h t => exact ⟨.int _, h, t⟩
  | str h t => exact ⟨.str _, h, t⟩
theorem AtK.length : ∀ {xs : List (Key × V)} {ps : List (Dt × Dt)}, AtK Y H xs ps → xs.length = ps.length
  | _, _, .nil => rfl
  | _, _, .int _ t => by simp [AtK.length t]
  | _, _, .str _ t => by simp [AtK.length t]
theorem AtK.any {k : Key} {kd : Dt} (hk : KeyD k kd) : ∀ {xs : List (Key × V)} {ps : List (Dt × Dt)}, AtK Y H xs ps → (xs.any fun p => decide (p.1 = k)) = ps.any fun p => PyData.eqv p.1 kd
  | [], [], _ => rfl
  | p :: xs, q :: ps, h => by
    obtain ⟨h1, h2, h3⟩ := h.uncons
    rw [List.any_cons, List.any_cons, AtK.any hk h3, h1.eqv hk]
  | [], _ :: _, h => by cases h
  | _ :: _, [], h => by cases h
theorem AtK.map {k : Key} {kd v d} (hk : KeyD k kd) (a : At Y H v d) : ∀ {xs : List (Key × V)} {ps : List (Dt × Dt)}, AtK Y H xs ps → AtK Y H (xs.map fun p => if p.1 = k then (p.1, v) else p) (ps.map fun p => if PyData.eqv p.1 kd = true then (p.1, d) else p)
  | [], [], _ => .nil
  | p :: xs, q :: ps, h => by
    obtain ⟨h1, h2, h3⟩ := h.uncons
    rw [List.map_cons, List.map_cons]
    have e := h1.eqv hk
    by_cases z : p.1 = k
    · rw [if_pos z, if_pos (by rw [e]; exact decide_eq_true z)]
      exact .cons h1 a (AtK.map hk a h3)
    · rw [if_neg z, if_neg (by rw [e, decide_eq_false z]; simp)]
      exact .cons h1 h2 (AtK.map hk a h3)
  | [], _ :: _, h => by cases h
  | _ :: _, [], h => by cases h
theorem AtK.snoc {k : Key} {kd v d} (hk : KeyD k kd) (a : At Y H v d) : ∀ {xs : List (Key × V)} {ps : List (Dt × Dt)}, AtK Y H xs ps → AtK Y H (xs ++ [(k, v)]) (ps ++ [(kd, d)])
  | [], [], _ => .cons hk a .nil
  | p :: xs, q :: ps, h => by
    obtain ⟨h1, h2, h3⟩ := h.uncons
    exact .cons h1 h2 (AtK.snoc hk a h3)
  | [], _ :: _, h => by cases h
  | _ :: _, [], h => by cases h
theorem AtK.put {k : Key} {kd v d} (hk : KeyD k kd) (a : At Y H v d) {xs : List (Key × V)} {ps : List (Dt × Dt)} (h : AtK Y H xs ps) : AtK Y H (putK xs k v) (putP ps kd d) := by
  unfold putK putP
  rw [h.any hk]
  split
  · exact h.map hk a
  · exact h.snoc hk a
theorem AtK.get {k : Key} {kd : Dt} (hk : KeyD k kd) : ∀ {xs : List (Key × V)} {ps : List (Dt × Dt)}, AtK Y H xs ps → (valV xs k = none ∧ getP ps kd = none) ∨ ∃ v d, valV xs k = some v ∧ getP ps kd = some d ∧ At Y H v d
  | [], [], _ => .inl ⟨rfl, rfl⟩
  | p :: xs, q :: ps, h => by
    obtain ⟨h1, h2, h3⟩ := h.uncons
    have e := h1.eqv hk
    unfold valV getP
    rw [List.find?_cons, List.find?_cons, e]
    by_cases z : p.1 = k
    · rw [decide_eq_true z]
      exact .inr ⟨p.2, q.2, rfl, rfl, h2⟩
    · rw [decide_eq_false z]
      exact AtK.get hk h3
  | [], _ :: _, h => by cases h
  | _ :: _, [], h => by cases h
theorem AtK.merge : ∀ {ys : List (Key × V)} {qs : List (Dt × Dt)} {xs : List (Key × V)} {ps : List (Dt × Dt)}, AtK Y H ys qs → AtK Y H xs ps → AtK Y H (mergeK xs ys) (mergeP ps qs)
  | [], [], _, _, _, h => h
  | p :: ys, q :: qs, xs, ps, k, h => by
    have u := k.uncons
    exact AtK.merge (ys := ys) (qs := qs) u.2.2 (AtK.put u.1 u.2.1 h)
  | [], _ :: _, _, _, h, _ => by cases h
  | _ :: _, [], _, _, h, _ => by cases h
theorem AtK.del {k : Key} {kd : Dt} (hk : KeyD k kd) : ∀ {xs : List (Key × V)} {ps : List (Dt × Dt)}, AtK Y H xs ps → AtK Y H (dropK xs k) (delP ps kd)
  | [], [], _ => .nil
  | p :: xs, q :: ps, h => by
    obtain ⟨h1, h2, h3⟩ := h.uncons
    have e := h1.eqv hk
    unfold dropK delP
    rw [List.filter_cons, List.filter_cons]
    by_cases z : p.1 = k
    · rw [if_neg (by simp [z]), if_neg (by rw [e, decide_eq_true z]; simp)]
      exact AtK.del hk h3
    · rw [if_pos (by simp [z]), if_pos (by rw [e, decide_eq_false z]; rfl)]
      exact .cons h1 h2 (AtK.del hk h3)
  | [], _ :: _, h => by cases h
  | _ :: _, [], h => by cases h
end

theorem putP_ne {ps : List (Dt × Dt)} {k v : Dt} : putP ps k v ≠ [] := by
  unfold putP
  split
  · rename_i h
    intro z
    rw [List.map_eq_nil_iff] at z
    subst z
    cases h
  · simp
theorem mergeP_ne2 : ∀ {qs ps : List (Dt × Dt)}, ps ≠ [] → mergeP ps qs ≠ []
  | [], _, h => h
  | q :: qs, ps, _ => mergeP_ne2 (qs := qs) putP_ne
theorem mergeP_ne : ∀ {qs : List (Dt × Dt)}, qs ≠ [] → mergeP [] qs ≠ []
  | [], h => absurd rfl h
  | q :: qs, _ => mergeP_ne2 (qs := qs) putP_ne
/-! ### {k: v, ..} -/
def pairsF : List (FD × FD) → En → Option (List (Dt × Dt) × En)
  | [], e => some ([], e)
  | (fk, fv) :: r, e => (fk e).bind fun p => (fv p.2).bind fun q => (pairsF r q.2).bind fun s => some ((p.1, q.1) :: s.1, s.2)
def keysOk (ps : List (Dt × Dt)) : Bool := ps.all fun p => (keyOf p.1).isSome
def dispD (fs : List (FD × FD)) : FD := fun e => (pairsF fs e).bind fun q => if keysOk q.1 = true ∧ q.1.length ≤ 15 ∧ q.1 ≠ [] then some (.dict (mergeP [] q.1), q.2) else none
section
variable {X : Cx} {pos : Pos} {keys : List (Option Expr)} {values : List Expr}
abbrev PPd (X : Cx) (pos : Pos) (keys : List (Option Expr)) (values : List Expr) (fs : List (FD × FD)) : Prop := PPs X pos keys values (fs.map fun p => (tD X.lay p.1, tD X.lay p.2))
theorem pp_n : PPd X pos [] [] [] := pps_nil
theorem pp_c {k v : Expr} {ks : List (Option Expr)} {vs : List Expr} {fk fv : FD} {fs : List (FD × FD)} (hk : PD X k fk) (hv : PD X v fv) (hr : PPd X pos ks vs fs) : PPd X pos (some k :: ks) (v :: vs) ((fk, fv) :: fs) := pps_cons hk hv hr
inductive VVs (Y : Lay) (H : Hp) : List (V × V) → List (Dt × Dt) → Prop
  | nil : VVs Y H [] []
  | cons {x y : V} {d e : Dt} {xs : List (V × V)} {ds : List (Dt × Dt)} : At Y H x d → At Y H y e → VVs Y H xs ds → VVs Y H ((x, y) :: xs) ((d, e) :: ds)
theorem VVs.mono {Y : Lay} {H H' : Hp} (s : Same H H') : ∀ {xs : List (V × V)} {ds : List (Dt × Dt)}, VVs Y H xs ds → VVs Y H' xs ds
  | _, _, .nil => .nil
  | _, _, .cons a b k => .cons (a.mono s) (b.mono s) (VVs.mono s k)
theorem pairs_use {Y : Lay} {σ : St} : ∀ {fs : List (FD × FD)} {H : Hp} {Q : List (V × V) → Hp → Prop} {F : Fr} {env : En} {ps : List (Dt × Dt)} {env' : En}, Rel Y F σ H env → pairsF fs env = some (ps, env') →
    (∀ vs H', Rel Y F σ H' env' → Kd env env' → Stp (Ow F σ env) H (Ow F σ env') H' → VVs Y (hide (Ow F σ env') H') vs ps → Q vs H') → tPairs (fs.map fun p => (tD Y p.1, tD Y p.2)) σ H Q
  | [], H, Q, F, env, ps, env', R0, h, k => by
    cases h
    exact k [] H R0 (Kd.refl _) Stp.refl .nil
  | (fk, fv) :: fs, H, Q, F, env, ps, env', R0, h, k => by
    obtain ⟨⟨dk, e1⟩, h1, h⟩ := Option.bind_eq_some_iff.mp h
    obtain ⟨⟨dv, e2⟩, h2, h⟩ := Option.bind_eq_some_iff.mp h
    obtain ⟨⟨qs, e3⟩, h3, h⟩ := Option.bind_eq_some_iff.mp h
    cases h
    exact ⟨F, env, dk, e1, R0, h1, fun x H1 R1 kd1 s1 a1 => ⟨F, e1, dv, e2, R1, h2, fun y H2 R2 kd2 s2 a2 =>
      pairs_use R2 h3 fun vs H3 R3 kd3 s3 a3 => k ((x, y) :: vs) H3 R3 ((kd1.trans kd2).trans kd3) ((s1.trans s2).trans s3) (.cons ((a1.mono s2.same).mono s3.same) (a2.mono s3.same) a3)⟩⟩
theorem VVs.keysAt {Y : Lay} {H : Hp} : ∀ {xs : List (V × V)} {ds : List (Dt × Dt)}, VVs Y H xs ds → keysOk ds = true → ∃ kvs : List (Key × V), xs = kvs.map (fun kv => (kV kv.1, kv.2)) ∧ AtK Y H kvs ds
  | _, _, .nil, _ => ⟨[], rfl, .nil⟩
  | _, _, @VVs.cons _ _ x y d e xs ds a b k, h => by
    have h' : (keyOf d).isSome = true ∧ keysOk ds = true := by simpa [keysOk] using h
    obtain ⟨kk, hk⟩ := Option.isSome_iff_exists.mp h'.1
    obtain ⟨kvs, h1, h2⟩ := VVs.keysAt k h'.2
    have kd := keyOf_some hk
    refine ⟨(kk, y) :: kvs, ?_, .cons kd b h2⟩
    rw [h1, kd.at a]
    rfl
theorem f_disp {fs : List (FD × FD)} (h : PPd X pos keys values fs) (hall : keys.all (·.isSome) = true := by rfl) (hl : keys.length = values.length := by rfl) (h0 : keys ≠ [] := by exact fun z => by cases z) (h15 : keys.length ≤ 15 := by decide) :
    PF X (.Dict keys values pos) (dispD fs) := (pe_disp h hall hl h0 h15).imp fun σ H Q q => by
  obtain ⟨F, env, d, env', R0, hf, k⟩ := q
  obtain ⟨⟨ps, e1⟩, h1, hf⟩ := Option.bind_eq_some_iff.mp hf
  split at hf
  · rename_i hz
    cases hf
    intro p hp
    have RP := R0.plus hp (same_upd (o := .dK []) hp) upd_same
    refine pairs_use RP h1 fun vs H1 R1 kd s a => ?_
    have nO : ¬ F.O0 p := fun z => R0.fresh hp (.inl z)
    have n0 := R0.fresh0 hp
    have hD : H1 p = some (.dK []) := R1.keep p _ (show upd F.H0 p (.dK []) p = _ from upd_same) fun z => by
      obtain ⟨u, q⟩ := R0.ms_there z
      rw [hp] at q; cases q
    obtain ⟨kvs, hv, ka⟩ := a.keysAt hz.1
    refine ⟨hD, kvs, hv, by rw [ka.length]; exact hz.2.1, ?_⟩
    obtain ⟨R2, s2⟩ := R1.replus (o' := .dK (mergeK [] kvs)) nO n0
    refine k p _ _ hp R2 kd ?_ (.dicK upd_same ((AtK.merge ka .nil).mono s2.same) (mergeP_ne hz.2.2))
    refine Stp.trans (fun b u n e => ?_) (s.trans s2)
    exact ⟨fun z => (ow_plus.mp z).elim (fun w => by rw [w, hp] at e; cases e) n, same_upd hp b u e⟩
  · cases hf

/-! ### d.get(k, x): keys that are ints or texts -/
def getG (d : Dt) (k : Dt) : Option (Option Dt) := match d with
  | .dict ps => if keysOk ps = true ∧ ps ≠ [] ∧ (keyOf k).isSome = true then some (getP ps k) else none
  | _ => none
def get2D (fd : FV) (fk fx : FD) : FD := fun e => (fd e).bind fun p => (toD p.2 p.1).bind fun d0 => (getG d0 (.int 0)).bind fun _ => (fk p.2).bind fun q => (fx q.2).bind fun r => (toD r.2 p.1).bind fun d => (getG d q.1).bind fun o => some (o.getD r.1, r.2)
theorem See.dK {Y : Lay} {O : Addr → Prop} {H : Hp} {v : V} {ps : List (Dt × Dt)} (h : See Y O H v (.dict ps)) (hk : keysOk ps = true) (hn : ps ≠ []) : ∃ a kvs, v = .ref a ∧ Rd H a (.dK kvs) ∧ AtK Y (hide O H) kvs ps := by
  have noN : ∀ {H : Hp} {xs : List NEnt}, AtN Y H xs ps → False := fun {H xs} h => by
    cases h with
    | nil => exact hn rfl
    | cons a t _ _ =>
      simp only [keysOk, List.all_cons, Bool.and_eq_true] at hk
      obtain ⟨kk, hk⟩ := Option.isSome_iff_exists.mp hk.1
      have := (keyOf_some hk).at a
      cases kk <;> cases this
  cases h with
  | «at» h =>
    cases h with
    | scr _ _ => simp [keysOk, keyOf] at hk
    | dicK h k _ => exact ⟨_, _, rfl, Same.rd (hide_le _ _) h, k⟩
    | dicN h k => exact (noN k).elim
  | own h =>
    cases h with
    | dicK h k _ => exact ⟨_, _, rfl, Rd.of h, k⟩
    | dicN h k => exact (noN k).elim
theorem getG_some {d k : Dt} {o : Option Dt} (h : getG d k = some o) : ∃ ps, d = .dict ps ∧ keysOk ps = true ∧ ps ≠ [] ∧ (∃ kk, keyOf k = some kk) ∧ o = getP ps k := by
  unfold getG at h
  split at h
  · split at h
    · rename_i ps hz
      cases h
      exact ⟨_, rfl, hz.1, hz.2.1, Option.isSome_iff_exists.mp hz.2.2, rfl⟩
    · cases h
  · cases h
variable {o e f : Expr} {apos cpos : Pos}
theorem d_get2 {fo : FV} {fk fx : FD} (hu : X.A.units + 64 < cLine) (ho : PV X o fo) (he : PD X e fk) (hf : PD X f fx) (m : M2 X o "get" apos e f cpos := by exact ⟨rfl, rfl, rfl, rfl⟩) : PD X (.Call (.Attribute o "get" apos) [e, f] [] cpos) (get2D fo fk fx) := (pe_dget2 (by omega) ho he hf m).imp fun σ H Q q => by
  obtain ⟨F, env, d, env', R0, hf, k⟩ := q
  obtain ⟨⟨r1, e1⟩, h1, hf⟩ := Option.bind_eq_some_iff.mp hf
  obtain ⟨d0, h2, hf⟩ := Option.bind_eq_some_iff.mp hf
  obtain ⟨o0, h3, hf⟩ := Option.bind_eq_some_iff.mp hf
  obtain ⟨⟨dk, e2⟩, h4, hf⟩ := Option.bind_eq_some_iff.mp hf
  obtain ⟨⟨dx, e3⟩, h5, hf⟩ := Option.bind_eq_some_iff.mp hf
  obtain ⟨d1, h6, hf⟩ := Option.bind_eq_some_iff.mp hf
  obtain ⟨o1, h7, hf⟩ := Option.bind_eq_some_iff.mp hf
  cases hf
  refine ⟨F, env, r1, e1, R0, h1, fun v1 H1 R1 kd1 s1 a1 => ?_⟩
  obtain ⟨ps0, rfl, g1, g2, _, _⟩ := getG_some h3
  obtain ⟨a, kvs0, rfl, g3, _⟩ := (a1.see' R1 h2).dK g1 g2
  refine ⟨a, rfl, .inl ⟨kvs0, g3⟩, F, e1, dk, e2, R1, h4, fun v2 H2 R2 kd2 s2 a2 => ⟨F, e2, dx, _, R2, h5, fun v3 H3 R3 kd3 s3 a3 => ?_⟩⟩
  obtain ⟨ps1, rfl, g4, g5, ⟨kk, g6⟩, rfl⟩ := getG_some h7
  obtain ⟨b, kvs1, eb, g7, g8⟩ := (((a1.step kd2 s2).step kd3 s3).see' R3 h6).dK g4 g5
  cases eb
  have kD := keyOf_some g6
  refine ⟨valV kvs1 kk, .inl ⟨kvs1, kk, g7, kD.at a2, rfl⟩, ?_⟩
  have kd := (kd1.trans kd2).trans kd3
  have st := (s1.trans s2).trans s3
  rcases g8.get kD with ⟨z1, z2⟩ | ⟨v, d, z1, z2, z3⟩
  · rw [z1]
    refine k v3 H3 R3 kd st ?_
    have : (getP ps1 dk).getD dx = dx := by rw [z2]; rfl
    rw [this]
    exact a3
  · rw [z1]
    refine k v H3 R3 kd st ?_
    have : (getP ps1 dk).getD dx = d := by rw [z2]; rfl
    rw [this]
    exact z3
end
end DL

set_option Elab.async false
set_option linter.all false
set_option maxRecDepth 100000
set_option autoImplicit true
/-! DL12: defs that hand back a new list; the bundle of a call; negation. -/
namespace DL
open PySem L2

/-! ### a def whose last statement returns a new object -/
def spN (Y : Lay) (n : Nat) (G : FF) : Sp := fun vs H Q _ => ∃ (O : Addr → Prop) (fs : List Dt) (d : Dt), (∀ a, O a → ∃ o, H a = some o) ∧ vs.length = n ∧ Ats Y (hide O H) vs fs ∧ G fs = some (d, []) ∧
  ∀ p o H', H p = none → H' p = some o → Same H H' → OwnAt Y (hide (fun a => a = p ∨ O a) H') H' p d → Q (.ref p) H'
/-- statements, then return of a new object -/
def tN (Y : Lay) (g : FS) (f : FD) : TS := fun D σ H => ∃ F env e1 d e2, F.ms = [] ∧ Rel Y F σ H env ∧ g env = some (.nx e1) ∧ f e1 = some (d, e2) ∧
  ∀ p o σ' H', F.H0 p = none → Rel Y (F.plus p o) σ' H' e2 → OwnAt Y (hide (fun a => a = p ∨ F.O0 a) H') H' p d → D.rt (.ref p) H'
abbrev PNs (X : Cx) (st : List Stmt) (g : FS) (f : FD) : Prop := PSs X st (tN X.lay g f)
section
variable {X : Cx} {pos : Pos} {e : Expr} {st : Stmt} {rest : List Stmt}
theorem n_ret {f : FD} (h : PF X e f) : PNs X [.Return (some e) pos] skS f := PSs.imp (pss_one (ps_ret h)) fun D σ H q => by
  obtain ⟨F, env, e1, d, e2, hm, R0, hg, hf, k⟩ := q
  cases hg
  refine ⟨F, env, d, e2, R0, hf, fun p o H' hp R1 kd s a => k p o σ H' (R0.fresh0 hp) R1 (a.mono (hide_sub fun b z => ?_) fun _ z => z)⟩
  exact ow_plus.mpr (z.imp id fun z => .inl z)
theorem n_cons {f : FS} {g : FS} {fd : FD} (h : PZ X 0 st f) (k : PNs X rest g fd) : PNs X (st :: rest) (sqS f g) fd := PSs.imp (pss_cons h k) fun D σ H q => by
  obtain ⟨F, env, e1, d, e2, hm, R0, hg, hf, k⟩ := q
  obtain ⟨o, h1, hg⟩ := Option.bind_eq_some_iff.mp hg
  refine ⟨F, env, o, by rw [hm]; rfl, R0, h1, ?_⟩
  cases o with
  | nx e3 =>
    exact fun σ' H' R1 s => ⟨F, e3, e1, d, e2, hm, R1, hg, hf, k⟩
  | rt d e => cases hg
  | bk e => cases hg
  | ct e => cases hg
end
/-- n names in all, p parameters; the answer is what f gives behind g -/
def runN (p n : Nat) (g : FS) (f : FD) : FF := fun ds => if ds.length = p then (g (iniE 0 n ds)).bind fun o => match o with
  | .nx e => (f e).bind fun q => some (q.1, [])
  | _ => none
  else none
/-- .. of a def whose answer is data -/
def runP (m p n : Nat) (f : FS) : FF := fun ds => if ds.length = p then runF m n f ds else none
theorem runN_len {p n : Nat} {g : FS} {f : FD} : ∀ ds r, runN p n g f ds = some r → ds.length = p := fun ds r h => by
  unfold runN at h
  split at h
  · assumption
  · cases h
theorem runP_len {m p n : Nat} {f : FS} : ∀ ds r, runP m p n f ds = some r → ds.length = p := fun ds r h => by
  unfold runP at h
  split at h
  · assumption
  · cases h
theorem runP_run {m p n : Nat} {f : FS} : ∀ ds r, runP m p n f ds = some r → r.2.length = m ∧ runF m n f ds = some r := fun ds r h => by
  unfold runP at h
  split at h
  · refine ⟨?_, h⟩
    obtain ⟨o, h1, h2⟩ := Option.bind_eq_some_iff.mp h
    cases o with
    | nx e =>
      obtain ⟨ms, h3, h4⟩ := Option.bind_eq_some_iff.mp h2
      cases h4
      exact (ownsE_get h3).1
    | rt d e =>
      obtain ⟨ms, h3, h4⟩ := Option.bind_eq_some_iff.mp h2
      cases h4
      exact (ownsE_get h3).1
    | bk e => cases h2
    | ct e => cases h2
  · cases h
section
variable {P : Program} {w : World} {K : PySem.W.Frag} {mg : Str → Option Value} {base : Heap}
theorem fn_n {x qual : Str} {st : Stmt} {f : Addr} {fd : FuncData} {N ps : List Str} {k : Nat} {g : FS} {fe : FD} (F : Fun K x qual st f fd) (S : FnScope N ps (defScope st))
    (hb : ∀ (cdv : Value) (A : Around) (outer : List Env) (s : Shared) (H : Hp) (E : XK), Room k (A.deeper (PyProof.Rows.envOfC qual (defScope st) s.heap.objs.size f cdv)) → PNs (cxOf CX0 P w K mg base N qual (defScope st) f cdv A outer s H E).nox (defBody st) g fe) :
    FnOk P w K mg base CX0 (k + 1) f fd ps (spN ⟨P, w, K⟩ ps.length (runN ps.length N.length g fe)) := by
  refine F.ok S (fun vs H Q E h => ?_) (fun cdv A outer s H vs Q E hr h => ⟨_, hb cdv A outer s H E hr, ?_⟩)
  · obtain ⟨O, fs, d, _, h, _⟩ := h
    exact h
  · obtain ⟨O, fs, d, hO, hl, ha, hg, q⟩ := h
    have hN : ps.length ≤ N.length := by have := congrArg List.length S.pre; rw [List.length_take] at this; omega
    have ha' : Ats ⟨P, w, K⟩ (hide (fun a => O a ∨ a ∈ ([] : List Addr)) H) vs fs := ha.mono (hide_sub fun a z => z.elim id fun w => absurd w List.not_mem_nil)
    have R0 := ini_rel (Y := ⟨P, w, K⟩) (N := N) (n := ps.length) (as := []) (us := vs) (es := []) (fs := fs) (show vs.length ≤ N.length by omega) hO List.nodup_nil (fun a z => absurd z List.not_mem_nil) .nil ha'
    unfold runN at hg
    split at hg
    · obtain ⟨o, h1, h2⟩ := Option.bind_eq_some_iff.mp hg
      cases o with
      | nx e1 =>
        obtain ⟨⟨d', e2⟩, h3, h4⟩ := Option.bind_eq_some_iff.mp h2
        cases h4
        refine ⟨⟨H, O, []⟩, _, e1, d', e2, rfl, R0, h1, h3, fun p o σ' H' hp R1 a => ?_⟩
        have h0 : H p = none := hp
        have ho : H' p = some o := R1.keep p o (show upd H p o p = some o from upd_same) (fun z => absurd z List.not_mem_nil)
        refine q p o H' h0 ho (fun a u e => R1.keep a u (show upd H p o a = some u by rw [upd_ne (ne_of_none e h0)]; exact e) (fun z => absurd z List.not_mem_nil)) a
      | rt _ _ => cases h2
      | bk _ => cases h2
      | ct _ => cases h2
    · cases hg
/-- .. whose answer is data -/
theorem fn_p {x qual : Str} {st : Stmt} {f : Addr} {fd : FuncData} {N ps : List Str} {k m : Nat} {g : FS} {G : FF} (F : Fun K x qual st f fd) (S : FnScope N ps (defScope st)) (hG : ∀ ds r, G ds = some r → runP m ps.length N.length g ds = some r)
    (hb : ∀ (cdv : Value) (A : Around) (outer : List Env) (s : Shared) (H : Hp) (E : XK), Room k (A.deeper (PyProof.Rows.envOfC qual (defScope st) s.heap.objs.size f cdv)) → PZs (cxOf CX0 P w K mg base N qual (defScope st) f cdv A outer s H E).nox m (defBody st) g) :
    FnOk P w K mg base CX0 (k + 1) f fd ps (spD ⟨P, w, K⟩ ps.length G) :=
  fn_d F S (fun ds r h => runP_run ds r (hG ds r h)) hb

/-! ### what a call wants, in one -/
structure Cal (P : Program) (w : World) (K : PySem.W.Frag) (mg : Str → Option Value) (base : Heap) (x : Str) (k n : Nat) (G : FF) : Prop where
  ex : ∃ f fd ps, FnOk P w K mg base CX0 k f fd ps (spD ⟨P, w, K⟩ n G) ∧ mg x = some (.ref f) ∧ PySem.W.keepIn K (.ref f) = true ∧ Binds K fd ps []
  hn : ∀ ds r, G ds = some r → ds.length = n
structure CalN (P : Program) (w : World) (K : PySem.W.Frag) (mg : Str → Option Value) (base : Heap) (x : Str) (k n : Nat) (G : FF) : Prop where
  ex : ∃ f fd ps, FnOk P w K mg base CX0 k f fd ps (spN ⟨P, w, K⟩ n G) ∧ mg x = some (.ref f) ∧ PySem.W.keepIn K (.ref f) = true ∧ Binds K fd ps []
  hn : ∀ ds r, G ds = some r → ds.length = n
end
section
variable {X : Cx} {x : Str} {p pos : Pos} {e : Expr} {es : List Expr} {fa : FA} {j k n : Nat} {G : FF}
theorem c_call0 (C : Cal X.prog X.w X.K X.mg X.base x k n G) (hr : Room j X.A) (hk : k ≤ j) (ha : PAs X (e :: es) fa)
    (hg : Gl X x := by rfl) (hdb : (x == ("__debug__" : Str)) = false := by decide) (he : starEach (e :: es) X.env = (false, eval e X.env) :: starEach es X.env := by rfl) (hpl : (backTo pos (starEach es X.env)).any (·.1) = false := by rfl) :
    PD X (.Call (.Name x p) (e :: es) [] pos) (cl0 G fa) := by
  obtain ⟨f, fd, ps, h1, h2, h3, h4⟩ := C.ex
  exact d_call0 h1 (hr.mono hk) h2 h3 h4 C.hn ha hg hdb he hpl
theorem c_call1 (C : Cal X.prog X.w X.K X.mg X.base x k n G) (hr : Room j X.A) (hk : k ≤ j) (ha : PAs X (e :: es) fa)
    (hg : Gl X x := by rfl) (hdb : (x == ("__debug__" : Str)) = false := by decide) (he : starEach (e :: es) X.env = (false, eval e X.env) :: starEach es X.env := by rfl) (hpl : (backTo pos (starEach es X.env)).any (·.1) = false := by rfl) :
    PD X (.Call (.Name x p) (e :: es) [] pos) (cl1 G fa) := by
  obtain ⟨f, fd, ps, h1, h2, h3, h4⟩ := C.ex
  exact d_call1 h1 (hr.mono hk) h2 h3 h4 C.hn ha hg hdb he hpl
/-- f(..), a new object -/
def clN (G : FF) (f : FA) : FD := fun e => (f e).bind fun q => (allD q.1).bind fun ds => (G ds).bind fun r => if r.2 = [] then some (r.1, q.2) else none
theorem callN_use {Y : Lay} (hn : ∀ ds r, G ds = some r → ds.length = n) {E : XK} : ∀ σ H Q, tF Y (clN G fa) σ H Q → tCall (spN Y n G) [] E (tA Y fa) σ H Q := fun σ H Q q => by
  obtain ⟨F, env, d, env', R0, hf, k⟩ := q
  obtain ⟨⟨rs, e1⟩, h1, hf⟩ := Option.bind_eq_some_iff.mp hf
  obtain ⟨ds, h2, hf⟩ := Option.bind_eq_some_iff.mp hf
  obtain ⟨⟨d', ms⟩, h3, hf⟩ := Option.bind_eq_some_iff.mp hf
  split at hf
  · rename_i hz
    cases hf
    have hz0 : ms = [] := hz
    subst hz0
    refine ⟨F, env, rs, _, R0, h1, fun vs H1 R1 kd s a => ?_⟩
    show spN Y n G (vs ++ []) H1 Q E
    rw [List.append_nil]
    have ha := a.ats h2
    refine ⟨Ow F σ e1, ds, _, fun a z => R1.ow_there z, by rw [ha.length]; exact hn _ _ h3, ha, h3, fun p o H' hp ho sm av => ?_⟩
    exact fresh_fin R0 R1 kd s sm hp ho av (k p _ _)
  · cases hf
theorem c_callN (C : CalN X.prog X.w X.K X.mg X.base x k n G) (hr : Room j X.A) (hk : k ≤ j) (ha : PAs X (e :: es) fa)
    (hg : Gl X x := by rfl) (hdb : (x == ("__debug__" : Str)) = false := by decide) (he : starEach (e :: es) X.env = (false, eval e X.env) :: starEach es X.env := by rfl) (hpl : (backTo pos (starEach es X.env)).any (·.1) = false := by rfl) :
    PF X (.Call (.Name x p) (e :: es) [] pos) (clN G fa) := by
  obtain ⟨f, fd, ps, h1, h2, h3, h4⟩ := C.ex
  exact (pe_call (E := E0) h1 (hr.mono hk) hg h2 h3 h4 .nil pass0 ha hdb he hpl).imp (callN_use C.hn)
/-! -i -/
def negD (f : FV) : FD := fun e => (f e).bind fun p => match p.1 with
  | .d (.int i) => some (.int (-i), p.2)
  | _ => none
theorem d_neg {a : Expr} {f : FV} (h : PV X a f) : PD X (.UnaryOp .USub a pos) (negD f) := (pe_un un_neg h).imp fun σ H Q q => by
  obtain ⟨F, env, d, env', R0, hf, k⟩ := q
  obtain ⟨⟨r, e1⟩, h1, hf⟩ := Option.bind_eq_some_iff.mp hf
  refine ⟨F, env, r, e1, R0, h1, fun v H1 R1 kd s a => ?_⟩
  split at hf
  · rename_i i hi
    simp only at hi
    subst hi
    cases hf
    cases a
    exact ⟨i, rfl, k _ H1 R1 kd s (.int _)⟩
  · cases hf
end
theorem ats_ints {Y : Lay} {H : Hp} : ∀ ns : List Int, Ats Y H (ns.map V.int) (ns.map .int)
  | [] => .nil
  | n :: ns => .cons (.int n) (ats_ints ns)
end DL

set_option Elab.async false
set_option linter.all false
set_option maxRecDepth 100000
namespace DL
open PySem L2
/-! a list of one's own that is changed no more is data -/
theorem Rel.freeze {Y : Lay} {F : Fr} {σ : St} {H : Hp} {env : En} (R0 : Rel Y F σ H env) {i : Nat} {d : Dt} (hi : F.ms.length ≤ i) (hc : env[i]? = some (.own d)) :
    Rel Y F σ H (env.set i (.dat d)) ∧ ∀ b, Ow F σ (env.set i (.dat d)) b → Ow F σ env b := by
  have hl : i < env.length := (List.getElem?_eq_some_iff.mp hc).1
  have sub : ∀ b, Ow F σ (env.set i (.dat d)) b → Ow F σ env b := fun b z => by
    rcases z with z | ⟨j, e, h1, h2⟩
    · exact .inl z
    · by_cases hj : i = j
      · subst hj
        rw [List.getElem?_set] at h1
        simp [hl] at h1
      · rw [List.getElem?_set_ne hj] at h1
        exact .inr ⟨j, e, h1, h2⟩
  have sm := hide_sub (H := H) sub
  refine ⟨⟨R0.dom, R0.msO, by simp [R0.len], R0.keep, fun j e h => ?_, fun j k e e' b h1 h2 h3 h4 => ?_, fun j e h => ?_, fun j b h => ?_⟩, sub⟩
  · by_cases hj : i = j
    · subst hj
      rw [List.getElem?_set] at h
      simp [hl] at h
    · rw [List.getElem?_set_ne hj] at h
      obtain ⟨b, h1, h2, h3⟩ := R0.own j e h
      exact ⟨b, h1, h2.mono sm fun _ z => z, h3⟩
  · by_cases hj : i = j
    · subst hj
      rw [List.getElem?_set] at h1
      simp [hl] at h1
    · by_cases hk : i = k
      · subst hk
        rw [List.getElem?_set] at h2
        simp [hl] at h2
      · rw [List.getElem?_set_ne hj] at h1
        rw [List.getElem?_set_ne hk] at h2
        exact R0.inj j k e e' b h1 h2 h3 h4
  · by_cases hj : i = j
    · subst hj
      rw [List.getElem?_set] at h
      simp [hl] at h
      subst h
      obtain ⟨a, h1, h2, h3⟩ := R0.own i d hc
      refine ⟨.ref a, h1, ?_⟩
      have no : ¬ Ow F σ (env.set i (.dat d)) a := fun z => by
        rcases z with z | ⟨j, e, g1, g2⟩
        · rcases h3 with h3 | h3
          · exact R0.msO a h3 z
          · obtain ⟨o, ho⟩ := R0.dom a z
            rw [h3] at ho
            cases ho
        · by_cases hj : i = j
          · subst hj
            rw [List.getElem?_set] at g1
            simp [hl] at g1
          · rw [List.getElem?_set_ne hj] at g1
            exact hj (R0.inj i j d e a hc g1 h1 g2)
      exact h2.at sm fun o ho => hide_some.mpr ⟨no, ho⟩
    · rw [List.getElem?_set_ne hj] at h
      obtain ⟨v, h1, h2⟩ := R0.dat j e h
      exact ⟨v, h1, h2.mono sm⟩
  · have hj : i ≠ j := fun z => by
      have := (List.getElem?_eq_some_iff.mp h).1
      omega
    rw [List.getElem?_set_ne hj]
    exact R0.msAt j b h
def frzS (i : Nat) (f : FS) : FS := fun e => match e[i]? with
  | some (.own d) => f (e.set i (.dat d))
  | _ => f e
theorem z_frz {X : Cx} {m : Nat} {st : Stmt} {f : FS} (i : Nat) (hi : m ≤ i) (h : PZ X m st f) : PZ X m st (frzS i f) := h.imp fun D σ H q => by
  obtain ⟨F, env, out, hm, R0, hf, k⟩ := q
  unfold frzS at hf
  split at hf
  · rename_i d hc
    obtain ⟨R1, sub⟩ := R0.freeze (by omega) hc
    refine ⟨F, _, out, hm, R1, hf, ?_⟩
    cases out with
    | nx e => exact fun σ' H' R2 s => k σ' H' R2 fun a o n g => s a o (fun z => n (sub a z)) g
    | bk e => exact fun σ' H' R2 s => k σ' H' R2 fun a o n g => s a o (fun z => n (sub a z)) g
    | ct e => exact fun σ' H' R2 s => k σ' H' R2 fun a o n g => s a o (fun z => n (sub a z)) g
    | rt d e => exact k
  · exact ⟨F, env, out, hm, R0, hf, k⟩
end DL

set_option Elab.async false
set_option linter.all false
set_option maxRecDepth 100000
namespace DL
open PySem L2
/-! ### [elt for .. in .. if .. for .. in .. if ..] -/
def lc2F (g : FG) (t : FT) (f1 : FI) (g1 : FG) (t1 : FT) (fe : FD) (vs vs1 : List Nat) : List Dt → En → Option (List Dt × En)
  | [], e => some ([], e)
  | d :: ds, e => (g d e).bind fun e1 => (t e1).bind fun p => if p.1 = true then
      (f1 p.2).bind fun q => if noOwn q.2 vs = true then (lcF g1 t1 fe vs1 q.1 (wipeE q.2 vs1)).bind fun r => if noOwn r.2 vs = true then (lc2F g t f1 g1 t1 fe vs vs1 ds (wipeE r.2 vs)).bind fun s => some (r.1 ++ s.1, s.2) else none else none
    else if noOwn p.2 vs = true then lc2F g t f1 g1 t1 fe vs vs1 ds (wipeE p.2 vs) else none
def lc2D (f : FI) (g : FG) (t : FT) (f1 : FI) (g1 : FG) (t1 : FT) (fe : FD) (vs vs1 : List Nat) : FD := fun e => (f e).bind fun p => if noOwn p.2 vs = true then (lc2F g t f1 g1 t1 fe vs vs1 p.1 (wipeE p.2 vs)).bind fun r => if r.1.length ≤ sizeLine then some (.list r.1, backE p.2 r.2 vs) else none else none
theorem wipe_sub (σ : St) {vs1 vs : List Nat} (h : ∀ i ∈ vs1, i ∈ vs) : L2.wipe (L2.wipe σ vs1) vs = L2.wipe σ vs := by
  have key : ∀ (i : Nat), (L2.wipe (L2.wipe σ vs1) vs)[i]? = (L2.wipe σ vs)[i]? := fun i => by
    by_cases hi : i ∈ vs
    · have none_at : ∀ (τ : St) (us : List Nat), i ∈ us → (L2.wipe τ us)[i]? = if i < τ.length then some none else none := fun τ us => by
        induction us with
        | nil => intro h; exact absurd h (by simp)
        | cons u us ih =>
          intro h
          unfold L2.wipe
          by_cases hu : u = i
          · subst hu
            rw [List.getElem?_set]
            simp only [if_pos, wipe_length]
          · rw [List.getElem?_set_ne hu]
            exact ih ((List.mem_cons.mp h).elim (fun z => absurd z.symm hu) id)
      rw [none_at _ vs hi, none_at σ vs hi, wipe_length]
    · rw [wipe_out hi, wipe_out hi, wipe_out fun z => hi (h i z)]
  exact List.ext_getElem? key
theorem noOwn_sub {e : En} {vs1 vs : List Nat} (h : ∀ i ∈ vs1, i ∈ vs) (k : noOwn e vs = true) : noOwn e vs1 = true := List.all_eq_true.mpr fun i hi => List.all_eq_true.mp k i (h i hi)
theorem noOwn_wipe (e : En) (vs : List Nat) : noOwn (wipeE e vs) vs = true := List.all_eq_true.mpr fun j hj => by
  cases q : (wipeE e vs)[j]? with
  | none => rfl
  | some c => rw [wipeE_in hj q]
section
variable {X : Cx} {Y : Lay} {m : Nat} {vs vs1 : List Nat}
theorem lc2_use {ss ss1 : List Nat} {f f1 : FI} {g g1 : FG} {t t1 : FT} {fe : FD} (hs : ∀ i ∈ ss, i ∈ vs) (hs1 : ∀ i ∈ ss1, i ∈ vs1) (hv : ∀ i ∈ vs1, i ∈ vs) : ∀ σ H Q, tF Y (lc2D f g t f1 g1 t1 fe vs vs1) σ H Q → tLc2 (tI Y f) (tG Y ss g) (tT Y t) (tI Y f1) (tG Y ss1 g1) (tT Y t1) (tD Y fe) vs vs1 σ H Q := fun σ H Q q => by
  obtain ⟨F, env, d, env', R0, hf, k⟩ := q
  obtain ⟨⟨ds, e1⟩, h1, hf⟩ := Option.bind_eq_some_iff.mp hf
  split at hf
  rotate_left
  · cases hf
  rename_i no1
  obtain ⟨⟨res, ef⟩, h2, hf⟩ := Option.bind_eq_some_iff.mp hf
  split at hf
  rotate_left
  · cases hf
  rename_i hsz
  have hsz' : res.length ≤ sizeLine := hsz
  cases hf
  refine ⟨F, env, ds, e1, R0, h1, fun J H1 R1 kd1 s1 yl hz D hD => ?_⟩
  have n0 := R1.fresh0 hD
  have nO : ¬ F.O0 D := fun z => R1.fresh hD (.inl z)
  have hD0 : H D = none := fresh_back R1 kd1 s1 hD
  have RW : Rel Y F (L2.wipe σ vs) H1 (wipeE e1 vs) := R1.wipe no1
  have RP : Rel Y (F.plus D (.lst [])) (L2.wipe σ vs) (upd H1 D (.lst [])) (wipeE e1 vs) := RW.plus hD (same_upd hD) upd_same
  have owp : ∀ (o : HO) (e : En) (τ : St) a, Ow (F.plus D o) τ e a ↔ a = D ∨ Ow F τ e a := fun o e τ a => ow_plus
  have st0 : Stp (Ow F σ e1) H1 (Ow (F.plus D (.lst [])) (L2.wipe σ vs) (wipeE e1 vs)) (upd H1 D (.lst [])) := fun a o n e => by
    refine ⟨fun z => ?_, same_upd hD a o e⟩
    rw [owp, ow_wipe no1] at z
    exact z.elim (fun w => by rw [w, hD] at e; cases e) n
  have aD : ∀ {τ : St} {H' : Hp} {e : En} {acc : List V}, Rel Y (F.plus D (.lst acc)) τ H' e → H' D = some (.lst acc) := fun {τ H' e acc} R => R.keep D _ (show upd F.H0 D (.lst acc) D = _ from upd_same) fun z => by
    obtain ⟨u, q⟩ := R0.ms_there z
    rw [hD0] at q; cases q
  refine ⟨fun i mm Hc => mm = ds.length - i ∧ i ≤ ds.length ∧ ∃ acc accd ei rest, Hc D = some (.lst acc) ∧ Rel Y (F.plus D (.lst acc)) (L2.wipe σ vs) Hc ei ∧ Stp (Ow F σ e1) H1 (Ow (F.plus D (.lst acc)) (L2.wipe σ vs) ei) Hc ∧
    Ats Y (hide (Ow (F.plus D (.lst acc)) (L2.wipe σ vs) ei) Hc) acc accd ∧ KdX vs e1 ei ∧ ei.length = e1.length ∧ noOwn ei vs = true ∧ lc2F g t f1 g1 t1 fe vs vs1 (ds.drop i) ei = some (rest, ef) ∧ accd ++ rest = res, ⟨_, rfl, Nat.zero_le _, [], [], wipeE e1 vs, res, upd_same, RP, st0, .nil, KdX.of_wipe e1, wipeE_len _ _, noOwn_wipe _ _, by simpa using h2, rfl⟩, ?_⟩
  rintro i mm Hc ⟨rfl, hi, acc, accd, ei, rest, hacc, R2, s2, ka, kx, el, noi, hr, hcat⟩
  have yi := yl i _ _ s2 (fun a h => R2.ow_there h)
  by_cases hlt : i < ds.length
  · have e0 : ds.drop i = ds[i] :: ds.drop (i + 1) := List.drop_eq_getElem_cons hlt
    rw [e0] at hr
    obtain ⟨e2, g1', hr⟩ := Option.bind_eq_some_iff.mp hr
    obtain ⟨⟨b, e3⟩, g2, hr⟩ := Option.bind_eq_some_iff.mp hr
    obtain ⟨hgo, hy⟩ := yi.1 ds[i] (by simp [hlt])
    refine .inr ⟨hgo, fun H' => ∃ acc accd ei rest, H' D = some (.lst acc) ∧ Rel Y (F.plus D (.lst acc)) (L2.wipe σ vs) H' ei ∧ Stp (Ow F σ e1) H1 (Ow (F.plus D (.lst acc)) (L2.wipe σ vs) ei) H' ∧
      Ats Y (hide (Ow (F.plus D (.lst acc)) (L2.wipe σ vs) ei) H') acc accd ∧ KdX vs e1 ei ∧ ei.length = e1.length ∧ noOwn ei vs = true ∧ lc2F g t f1 g1 t1 fe vs vs1 (ds.drop (i + 1)) ei = some (rest, ef) ∧ accd ++ rest = res, fun H' z => ⟨_, by omega, rfl, hlt, z⟩, fun x H3 y => ?_⟩
    obtain ⟨sm, ax⟩ := hy x H3 y
    have R3 := R2.same sm
    refine ⟨F.plus D (.lst acc), ei, ds[i], e2, fun j hj => ms_no R3 noi j (hs j hj), R3, ax, g1', fun σ4 R4 s4 o4 => ?_⟩
    have hl4 : σ4.length = (L2.wipe σ vs).length := by
      have a1 := R4.len
      have a2 := R3.len
      have a3 := o4.1
      omega
    have ww : L2.wipe σ4 vs = L2.wipe σ vs := (o4.wipe hs hl4).trans (wipe_idem σ vs)
    refine ⟨ww, F.plus D (.lst acc), e2, b, e3, R4, g2, fun H5 R5 kd5 s5 => ?_⟩
    have s6 := ((s2.trans (Stp.of sm)).trans s4).trans s5
    have kx5 : KdX vs e1 e3 := (kx.trans (o4.kdx hs)).trans kd5.x
    have el5 : e3.length = e1.length := by
      have a1 := R5.len
      have a2 := R3.len
      omega
    have ka5 := ka.mono (Stp.same (((Stp.of sm).trans s4).trans s5))
    cases b with
    | false =>
      simp only [Bool.false_eq_true, if_false] at hr ⊢
      split at hr
      · rename_i no5
        have RW5 := R5.wipe no5
        have ow5 : Ow (F.plus D (.lst acc)) (L2.wipe σ vs) (wipeE e3 vs) = Ow (F.plus D (.lst acc)) σ4 e3 := by rw [← ww]; exact ow_wipe no5
        rw [ww] at RW5
        exact ⟨acc, accd, wipeE e3 vs, rest, aD R5, RW5, by rw [ow5]; exact s6, by rw [ow5]; exact ka5, kx5.wipe, (wipeE_len _ _).trans el5, noOwn_wipe _ _, hr, hcat⟩
      · cases hr
    | true =>
      simp only [if_true] at hr ⊢
      obtain ⟨⟨ds1, e4⟩, g3, hr⟩ := Option.bind_eq_some_iff.mp hr
      split at hr
      rotate_left
      · cases hr
      rename_i no4
      obtain ⟨⟨res1, ef1⟩, g4, hr⟩ := Option.bind_eq_some_iff.mp hr
      split at hr
      rotate_left
      · cases hr
      rename_i nof
      obtain ⟨⟨rest2, ef2⟩, g5, hr⟩ := Option.bind_eq_some_iff.mp hr
      cases hr
      refine ⟨F.plus D (.lst acc), e3, ds1, e4, R5, g3, fun J1 H6 R6 kd6 s7 yl1 hz1 => ?_⟩
      have no41 := noOwn_sub hv no4
      have RW6 : Rel Y (F.plus D (.lst acc)) (L2.wipe σ4 vs1) H6 (wipeE e4 vs1) := R6.wipe no41
      have ow6 : Ow (F.plus D (.lst acc)) (L2.wipe σ4 vs1) (wipeE e4 vs1) = Ow (F.plus D (.lst acc)) σ4 e4 := ow_wipe no41
      have kx6 : KdX vs e1 e4 := kx5.trans kd6.x
      have el6 : e4.length = e1.length := by
        have a1 := R5.len
        have a2 := R6.len
        omega
      have kdv : ∀ {a : En}, KdX vs1 e4 a → KdX vs e1 a := fun {a} h => kx6.trans fun i hi => h i fun z => hi (hv i z)
      refine ⟨fun j mm Hj => mm = ds1.length - j ∧ j ≤ ds1.length ∧ ∃ acc1 accd1 ej rest1, Hj D = some (.lst acc1) ∧ Rel Y (F.plus D (.lst acc1)) (L2.wipe σ4 vs1) Hj ej ∧ Stp (Ow F σ e1) H1 (Ow (F.plus D (.lst acc1)) (L2.wipe σ4 vs1) ej) Hj ∧ Stp (Ow (F.plus D (.lst acc)) σ4 e4) H6 (Ow (F.plus D (.lst acc1)) (L2.wipe σ4 vs1) ej) Hj ∧
        Ats Y (hide (Ow (F.plus D (.lst acc1)) (L2.wipe σ4 vs1) ej) Hj) acc1 accd1 ∧ KdX vs1 e4 ej ∧ ej.length = e1.length ∧ noOwn ej vs1 = true ∧ lcF g1 t1 fe vs1 (ds1.drop j) ej = some (rest1, ef1) ∧ accd1 ++ rest1 = accd ++ res1, ⟨_, rfl, Nat.zero_le _, acc, accd, wipeE e4 vs1, res1, aD R6, RW6, by rw [ow6]; exact s6.trans s7, by rw [ow6]; exact Stp.refl, by rw [ow6]; exact ka5.mono s7.same, KdX.of_wipe e4, (wipeE_len _ _).trans el6, noOwn_wipe _ _, by simpa using g4, rfl⟩, ?_⟩
      rintro j mm Hj ⟨rfl, hj, acc1, accd1, ej, rest1, hacc1, R7, s8, s9, ka7, kx7, el7, noj, hr1, hcat1⟩
      have yj := yl1 j _ _ s9 (fun a h => R7.ow_there h)
      by_cases hlt1 : j < ds1.length
      · have e0' : ds1.drop j = ds1[j] :: ds1.drop (j + 1) := List.drop_eq_getElem_cons hlt1
        rw [e0'] at hr1
        obtain ⟨e5, q1, hr1⟩ := Option.bind_eq_some_iff.mp hr1
        obtain ⟨⟨b, e6⟩, q2, hr1⟩ := Option.bind_eq_some_iff.mp hr1
        obtain ⟨hgo1, hy1⟩ := yj.1 ds1[j] (by simp [hlt1])
        refine .inr ⟨hgo1, fun Hj => ∃ acc1 accd1 ej rest1, Hj D = some (.lst acc1) ∧ Rel Y (F.plus D (.lst acc1)) (L2.wipe σ4 vs1) Hj ej ∧ Stp (Ow F σ e1) H1 (Ow (F.plus D (.lst acc1)) (L2.wipe σ4 vs1) ej) Hj ∧ Stp (Ow (F.plus D (.lst acc)) σ4 e4) H6 (Ow (F.plus D (.lst acc1)) (L2.wipe σ4 vs1) ej) Hj ∧
          Ats Y (hide (Ow (F.plus D (.lst acc1)) (L2.wipe σ4 vs1) ej) Hj) acc1 accd1 ∧ KdX vs1 e4 ej ∧ ej.length = e1.length ∧ noOwn ej vs1 = true ∧ lcF g1 t1 fe vs1 (ds1.drop (j + 1)) ej = some (rest1, ef1) ∧ accd1 ++ rest1 = accd ++ res1, fun H' z => ⟨_, by omega, rfl, hlt1, z⟩, fun x H8 y => ?_⟩
        obtain ⟨sm1, ax1⟩ := hy1 x H8 y
        have R8 := R7.same sm1
        refine ⟨F.plus D (.lst acc1), ej, ds1[j], e5, fun l hl => ms_no R8 noj l (hs1 l hl), R8, ax1, q1, fun σ9 R9 s10 o9 => ?_⟩
        have hl9 : σ9.length = (L2.wipe σ4 vs1).length := by
          have a1 := R9.len
          have a2 := R8.len
          have a3 := o9.1
          omega
        have ww1 : L2.wipe σ9 vs1 = L2.wipe σ4 vs1 := (o9.wipe hs1 hl9).trans (wipe_idem σ4 vs1)
        refine ⟨ww1, F.plus D (.lst acc1), e5, b, e6, R9, q2, fun H10 R10 kd10 s11 => ?_⟩
        have sx := ((Stp.of sm1).trans s10).trans s11
        have kx10 : KdX vs1 e4 e6 := (kx7.trans (o9.kdx hs1)).trans kd10.x
        have el10 : e6.length = e1.length := by
          have a1 := R10.len
          have a2 := R8.len
          omega
        have ka10 := ka7.mono (Stp.same sx)
        cases b with
        | false =>
          simp only [Bool.false_eq_true, if_false] at hr1 ⊢
          split at hr1
          · rename_i no6
            have RW10 := R10.wipe no6
            have ow10 : Ow (F.plus D (.lst acc1)) (L2.wipe σ4 vs1) (wipeE e6 vs1) = Ow (F.plus D (.lst acc1)) σ9 e6 := by rw [← ww1]; exact ow_wipe no6
            rw [ww1] at RW10
            exact ⟨acc1, accd1, wipeE e6 vs1, rest1, aD R10, RW10, by rw [ow10]; exact s8.trans sx, by rw [ow10]; exact s9.trans sx, by rw [ow10]; exact ka10, kx10.wipe, (wipeE_len _ _).trans el10, noOwn_wipe _ _, hr1, hcat1⟩
          · cases hr1
        | true =>
          simp only [if_true] at hr1 ⊢
          obtain ⟨⟨y', e7⟩, q3, hr1⟩ := Option.bind_eq_some_iff.mp hr1
          split at hr1
          rotate_left
          · cases hr1
          rename_i no7
          obtain ⟨⟨r1, r2⟩, q4, hr1⟩ := Option.bind_eq_some_iff.mp hr1
          cases hr1
          refine ⟨F.plus D (.lst acc1), e6, y', e7, R10, q3, fun v H11 R11 kd11 s12 a11 => ?_⟩
          have hlen : acc1.length < sizeLine := by
            have l1 := ka7.length
            have l2 := congrArg List.length hcat1
            have l3 := congrArg List.length hcat
            simp only [List.length_append, List.length_cons] at l2 l3
            omega
          refine ⟨acc1, aD R11, hlen, ?_⟩
          obtain ⟨R12, s13⟩ := R11.replus (o' := .lst (acc1 ++ [v])) nO n0
          have RW12 := R12.wipe no7
          have ow12 : Ow (F.plus D (.lst (acc1 ++ [v]))) (L2.wipe σ4 vs1) (wipeE e7 vs1) = Ow (F.plus D (.lst (acc1 ++ [v]))) σ9 e7 := by rw [← ww1]; exact ow_wipe no7
          rw [ww1] at RW12
          refine ⟨acc1 ++ [v], accd1 ++ [y'], wipeE e7 vs1, r1, upd_same, RW12, by rw [ow12]; exact ((s8.trans sx).trans s12).trans s13, by rw [ow12]; exact ((s9.trans sx).trans s12).trans s13, by rw [ow12]; exact ((ka10.mono s12.same).append (.cons a11 .nil)).mono s13.same, (kx10.trans kd11.x).wipe, ?_, noOwn_wipe _ _, q4, by simpa using hcat1⟩
          rw [wipeE_len]
          have a1 := R10.len
          have a2 := R11.len
          omega
      · have e0' : ds1.drop j = [] := List.drop_eq_nil_of_le (by omega)
        rw [e0'] at hr1
        cases hr1
        refine .inl ⟨yj.2 (by omega), ?_⟩
        have RWf := R7.wipe nof
        have owf : Ow (F.plus D (.lst acc1)) (L2.wipe σ vs) (wipeE ef1 vs) = Ow (F.plus D (.lst acc1)) (L2.wipe σ4 vs1) ef1 := by rw [← ww, ← wipe_sub σ4 hv]; exact ow_wipe nof
        rw [wipe_sub σ4 hv, ww] at RWf
        refine ⟨acc1, accd1, wipeE ef1 vs, rest2, hacc1, RWf, by rw [owf]; exact s8, by rw [owf]; exact ka7, (kdv kx7).wipe, (wipeE_len _ _).trans el7, noOwn_wipe _ _, g5, ?_⟩
        simp only [List.append_nil] at hcat1
        rw [hcat1, List.append_assoc]
        exact hcat
  · have e0 : ds.drop i = [] := List.drop_eq_nil_of_le (by omega)
    rw [e0] at hr
    cases hr
    refine .inl ⟨yi.2 (by omega), ?_⟩
    obtain ⟨RB, owB⟩ := R2.back (O1 := Ow F σ e1) (H1 := H1) el.symm no1 noi (fun j d' hj hd => R1.dat j d' hd) s2
    have kdB : Kd env (backE e1 ef vs) := kd1.trans fun j => by
      by_cases hj : j ∈ vs
      · exact .inl (backE_in el.symm hj)
      · rw [backE_out hj]
        exact kx j hj
    refine k D (.lst acc) Hc hD0 RB kdB (by rw [owB]; exact s1.trans s2) ?_
    rw [owB]
    refine .lst hacc ?_
    rw [← hcat]
    simpa using ka
theorem f_lc2 {ss ss1 : List Nat} {elt tg iter tg1 iter1 : Expr} {ifs ifs1 : List Expr} {scope : Scope} {own : List (Str × Nat)} {pos : Pos} {f f1 : FI} {g g1 : FG} {t t1 : FT} {fe : FD} (vs1 : List Nat) (hc : X.calm = true) (hN : X.N.Nodup) (hi : PId X tg iter f) (ok : BlkOk X.N X.env.scope scope own)
    (hg : ∀ (s : Shared) (H : Hp) (C : Addr) (cl : List (Str × Addr)) (fp : List Addr), PGd (X.blk s H scope (compEnvC scope cl C X.env) fp) ss tg g) (ht : ∀ (s : Shared) (H : Hp) (C : Addr) (cl : List (Str × Addr)) (fp : List Addr), PTd (X.blk s H scope (compEnvC scope cl C X.env) fp) ifs t)
    (hi1 : ∀ (s : Shared) (H : Hp) (C : Addr) (cl : List (Str × Addr)) (fp : List Addr), PId (X.blk s H scope (compEnvC scope cl C X.env) fp) tg1 iter1 f1)
    (hg1 : ∀ (s : Shared) (H : Hp) (C : Addr) (cl : List (Str × Addr)) (fp : List Addr), PGd (X.blk s H scope (compEnvC scope cl C X.env) fp) ss1 tg1 g1) (ht1 : ∀ (s : Shared) (H : Hp) (C : Addr) (cl : List (Str × Addr)) (fp : List Addr), PTd (X.blk s H scope (compEnvC scope cl C X.env) fp) ifs1 t1)
    (he : ∀ (s : Shared) (H : Hp) (C : Addr) (cl : List (Str × Addr)) (fp : List Addr), PD (X.blk s H scope (compEnvC scope cl C X.env) fp) elt fe) (hss : ∀ i ∈ ss, i ∈ own.map (·.2) := by decide) (hss1 : ∀ i ∈ ss1, i ∈ vs1 := by decide) (hv : ∀ i ∈ vs1, i ∈ own.map (·.2) := by decide)
    (hs : ∀ x, foldedSetIterable iter X.env x = pure x := by intro _; rfl) (hs1 : ∀ env x, foldedSetIterable iter1 env x = pure x := by intro _ _; rfl) :
    PF X (.ListComp elt [⟨tg, iter, ifs, 0⟩, ⟨tg1, iter1, ifs1, 0⟩] scope pos) (lc2D f g t f1 g1 t1 fe (own.map (·.2)) vs1) := (pe_lc2 hc hN hi ok hv hg ht hi1 hg1 ht1 he hs hs1).imp (lc2_use hss hss1 hv)
end
end DL

set_option Elab.async false
set_option linter.all false
set_option maxRecDepth 100000
namespace DL
open PySem L2
/-! d[k] = v, k a nested tuple, d one's own -/
def rSetN (Y : Lay) : V → V → V → Hp → (Hp → Prop) → Prop := fun o i v H Q => ∃ a xs ps k b, o = .ref a ∧ i = .ref b ∧ (∃ o, H a = some (dnO Y a o xs)) ∧ AtN Y H xs ps ∧ KeyIs Y H i k ∧ xs.length < sizeLine ∧ ∀ o', Q (upd H a (dnO Y a o' (putN xs k b v)))
theorem set_N {X : Cx} (hu : X.A.units + 64 < cLine) : PSet X (rSetN X.lay) := by
  intro pins s σ H o i v ov iv u Q I ro ri rv h
  obtain ⟨a, xs, ps, k, b, rfl, rfl, ⟨o, e⟩, n, hk, hl, q⟩ := h
  cases ro
  obtain ⟨b', hb, rfl, ki⟩ := hk.is I ri
  cases hb
  exact n_setItem hu I e n ki hl rv fun o' s' I' => ⟨_, I', q o'⟩
def putNd (ps : List (Dt × Dt)) (kd v : Dt) : List (Dt × Dt) := if (getNd ps kd).isSome = true then ps.map (fun p => if toKey p.1 = toKey kd then (p.1, v) else p) else ps ++ [(kd, v)]
theorem AtN.put {Y : Lay} {H : Hp} {xs : List NEnt} {ps : List (Dt × Dt)} (h : AtN Y H xs ps) {b : Addr} {kd d : Dt} {k : NestedKey} {v : V} (hb : At Y H (.ref b) kd) (hk : toKey kd = some k) (hv : At Y H v d) : AtN Y H (putN xs k b v) (putNd ps kd d) := by
  have hg : getNd ps kd = getN ps k := by unfold getNd; rw [hk]; rfl
  unfold putN putNd
  rw [hg, ← h.isS k]
  by_cases hz : (valN xs k).isSome = true
  · rw [if_pos hz, if_pos hz]
    clear hz hg
    have go : ∀ {xs : List NEnt} {ps : List (Dt × Dt)}, AtN Y H xs ps → AtN Y H (xs.map fun x => if x.1 = k then (x.1, x.2.1, v) else x) (ps.map fun p => if toKey p.1 = toKey kd then (p.1, d) else p) := by
      intro xs
      induction xs with
      | nil => intro ps h; cases h; exact .nil
      | cons x xs ih =>
        intro ps h
        cases h with
        | cons q1 q2 q3 q4 =>
          simp only [List.map_cons, hk, q2, Option.some.injEq]
          split
          · exact .cons q1 q2 hv (by simpa [hk] using ih q4)
          · exact .cons q1 q2 q3 (by simpa [hk] using ih q4)
    exact go h
  · rw [if_neg hz, if_neg hz]
    clear hz hg
    have go : ∀ {xs : List NEnt} {ps : List (Dt × Dt)}, AtN Y H xs ps → AtN Y H (xs ++ [(k, b, v)]) (ps ++ [(kd, d)]) := by
      intro xs
      induction xs with
      | nil => intro ps h; cases h; exact .cons hb hk hv .nil
      | cons x xs ih =>
        intro ps h
        cases h with
        | cons q1 q2 q3 q4 => exact .cons q1 q2 q3 (ih q4)
    exact go h
def ownD (e : En) (i : Nat) : Option (List (Dt × Dt)) := match e[i]? with
  | some (.own (.dict ps)) => some ps
  | _ => none
theorem ownD_some {e : En} {i : Nat} {ps : List (Dt × Dt)} (h : ownD e i = some ps) : e[i]? = some (.own (.dict ps)) := by
  unfold ownD at h
  split at h
  · rename_i hc
    cases h
    exact hc
  · cases h
theorem rel_ownD {Y : Lay} {F : Fr} {σ : St} {H : Hp} {env : En} (R0 : Rel Y F σ H env) {i : Nat} {ps : List (Dt × Dt)} (h : ownD env i = some ps) (hk : keysN ps = true) :
    ∃ a xs, σ[i]? = some (some (V.ref a)) ∧ (∃ o, H a = some (dnO Y a o xs)) ∧ AtN Y (hide (Ow F σ env) H) xs ps := by
  obtain ⟨a, h1, h2, _⟩ := R0.own i _ (ownD_some h)
  cases h2 with
  | dicK g k hn =>
    cases k with
    | nil => exact absurd rfl hn
    | int _ _ => simp [keysN, isTupD] at hk
    | str _ _ => simp [keysN, isTupD] at hk
  | dicN g k => exact ⟨a, _, h1, ⟨_, g⟩, k⟩
theorem putNd_ne {ps : List (Dt × Dt)} {kd v : Dt} : putNd ps kd v ≠ [] := by
  unfold putNd
  split
  · rename_i h
    intro z
    rw [List.map_eq_nil_iff] at z
    subst z
    unfold getNd at h
    cases hq : toKey kd with
    | none => rw [hq] at h; cases h
    | some k => rw [hq] at h; cases h
  · simp
theorem Rel.dicN {Y : Lay} {F : Fr} {σ : St} {H : Hp} {env : En} (R0 : Rel Y F σ H env) {i : Nat} {a : Addr} {ps ps' : List (Dt × Dt)} {xs' : List NEnt} {o' : Obj} (h : ownD env i = some ps) (hs : σ[i]? = some (some (V.ref a))) (k : AtN Y (hide (Ow F σ env) H) xs' ps') :
    Rel Y F σ (upd H a (dnO Y a o' xs')) (env.set i (.own (.dict ps'))) ∧ Kd env (env.set i (.own (.dict ps'))) ∧ Stp (Ow F σ env) H (Ow F σ (env.set i (.own (.dict ps')))) (upd H a (dnO Y a o' xs')) :=
  R0.write (ownD_some h) hs (fun b o hb e => by rw [upd_ne hb]; exact e) fun sm => .dicN upd_same (k.mono sm)
section
variable {X : Cx} {m : Nat} {pos p : Pos} {e : Expr} {x : Str}
/-- x[k] = e -/
def stN (i : Nat) (f fk : FD) : FS := fun e => (ownD e i).bind fun _ => (f e).bind fun p => (fk p.2).bind fun q => (ownD q.2 i).bind fun ps =>
  if keysN ps = true ∧ isTupD q.1 = true ∧ okKey q.1 = true ∧ ps.length < sizeLine then some (.nx (q.2.set i (.own (.dict (putNd ps q.1 p.1))))) else none
theorem z_storeN (i : Nat) {ei : Expr} {f fk : FD} {psub : Pos} (hu : X.A.units + 64 < cLine) (he : PD X e f) (hk : PD X ei fk) (hN : X.N[i]? = some x := by rfl) (hv : Vis X.env.scope x := by first | exact Or.inl rfl | exact Or.inr (Or.inl rfl) | exact Or.inr (Or.inr rfl)) (hd : (x == ("__debug__" : Str)) = false := by decide) (hcd : (x == ("__classdict__" : Str)) = false := by decide)
    (ha : ∀ v, assign (.Subscript (.Name x p) ei psub) X.env v = (do
      let ov ← holding [v] (eval (.Name x p) X.env)
      let iv ← holding [v, ov] (eval ei X.env)
      standAt psub
      holding [v, ov, iv] (setItem ov iv v)
      release [v, ov, iv] []) := by intro _; rfl)
    (hs : swapsWithSole [.Subscript (.Name x p) ei psub] e pos.line X.env = pure false := by rfl) (hw : swappedStores [.Subscript (.Name x p) ei psub] e X.env = pure none := by rfl)
    (h1 : (assignEach [.Subscript (.Name x p) ei psub] X.env).map (·.2) = [assign (.Subscript (.Name x p) ei psub) X.env] := by rfl) :
    PZ X m (.Assign [.Subscript (.Name x p) ei psub] e pos) (stN i f fk) :=
  (ps_asg he (pg_sub (pe_var hN hv hd hcd) hk (set_N hu) ha) hs hw h1).imp fun D σ H q => by
    obtain ⟨F, env, out, hm, R0, hf, k⟩ := q
    obtain ⟨ps0, h0, hf⟩ := Option.bind_eq_some_iff.mp hf
    obtain ⟨⟨d, e1⟩, h1, hf⟩ := Option.bind_eq_some_iff.mp hf
    obtain ⟨⟨dk, e2⟩, h2, hf⟩ := Option.bind_eq_some_iff.mp hf
    obtain ⟨ps, h3, hf⟩ := Option.bind_eq_some_iff.mp hf
    split at hf
    · rename_i hz
      cases hf
      obtain ⟨z1, z2, z3, z4⟩ := hz
      refine ⟨F, env, d, e1, R0, h1, fun v H1 R1 kd1 s1 a1 => ?_⟩
      -- the name is one of one's own ahead of the key
      obtain ⟨a, g1⟩ : ∃ a, σ[i]? = some (some (V.ref a)) := by
        obtain ⟨a, z, _⟩ := R0.own i _ (ownD_some h0)
        exact ⟨a, z⟩
      refine ⟨.ref a, g1, F, e1, dk, e2, R1, h2, fun w H2 R2 kd2 s2 a2 => ?_⟩
      obtain ⟨b, xs, g3, g4, g5⟩ := rel_ownD R2 h3 z1
      rw [g1] at g3
      cases g3
      obtain ⟨kk, k1, k2⟩ := (See.at a2).key z2 z3
      obtain ⟨bk, kd, rfl, k3, k4, k5⟩ := k2
      refine ⟨a, xs, _, kk, bk, rfl, rfl, g4, g5.mono (hide_le _ _), ⟨bk, kd, rfl, k3, k4, k5⟩, by rw [g5.len]; exact z4, fun o' => ?_⟩
      obtain ⟨R3, kd3, s3⟩ := R2.dicN (o' := o') h3 g1 (g5.put a2 k1 (a1.mono s2.same))
      exact k σ _ R3 ((s1.trans s2).trans s3)
    · cases hf
end
end DL

set_option Elab.async false
set_option linter.all false
set_option maxRecDepth 100000
namespace DL
open PySem L2
/-! {k: v}, k a nested tuple -/
def tDisp1 (Y : Lay) (tk tv : TE) : TE := fun σ H Q => ∀ p, H p = none → tk σ (upd H p (.dK [])) fun x H1 => tv σ H1 fun y H2 => H2 p = some (.dK []) ∧ ∃ k b, x = .ref b ∧ KeyIs Y H2 x k ∧ ∀ o, Q (.ref p) (upd H2 p (dnO Y p o [(k, b, y)]))
theorem pe_disp1 {X : Cx} {pos : Pos} {ke ve : Expr} {tk tv : TE} (hu : X.A.units + 64 < cLine) (hk : PE X ke tk) (hv : PE X ve tv) : PE X (.Dict [some ke] [ve] pos) (tDisp1 X.lay tk tv) := by
  refine ⟨fun pins s σ H Q I q => ?_⟩
  have hn := I.hok.fresh (Nat.le_refl s.heap.objs.size)
  have I1 := I.laid (a := s.heap.objs.size) (o := .dK []) (h' := s.heap.push { cls := .type "dict", data := .dict #[] }) (t' := s.toks) (fun _ _ q => Heap.get?_push_of_some _ q) (Nat.le_refl _) (dk_empty s.heap I.big)
  rw [arm_eval_Dict, zip_pairTrees [some ke] [ve] X.env pos rfl rfl, dictDisplay_pairs (pairTrees [some ke] [ve] X.env pos) (by simp [pairTrees]) (by simp [pairTrees])]
  have hu' : (nestedKind X.prog X.w).room X.A := by
    show X.A.units + 8 < cLine
    omega
  refine wpAny_bind (wpAny_standAt (wpAny_bind (wpAny_subDictH (knd := nestedKind X.prog X.w) (Q := fun d s' => wpAny (model X.prog X.w) X.A (pure (Value.ref d)) (EP X pins σ Q) X.xe s') hu' (by simp [pairTrees]) ?_)))
  refine pairTrees_cons_walk (thn (hk.run pins _ σ _ _ I1 (q _ hn)) fun u s1 ⟨x, H1, I2, rx, q1⟩ => thn (hv.run pins s1 σ H1 _ I2 q1) fun w2 s2 ⟨y, H2, I3, ry, e, k, b, hx, ki, q2⟩ => pairTrees_nil_walk ?_)
  subst hx
  obtain ⟨b', hb, rfl, kis⟩ := ki.is I3 rx
  cases hb
  obtain ⟨h1, dd⟩ := dk_nil I3 (.inl e)
  refine ⟨[(k, b, w2)], ⟨rfl, rfl, kis, True.intro⟩, dd, fun h' tk' dd' hs => wpAny_pure ?_⟩
  obtain ⟨o, es, ep, g1, g2, g3, g4, _, g5⟩ := dd'
  refine ⟨.ref s.heap.objs.size, upd H2 s.heap.objs.size (dnO X.lay s.heap.objs.size o [(k, b, y)]), d_write I3 (by rw [e]; exact True.intro) hs ⟨o, g1⟩ ⟨⟨h1, by simp [sizeLine_eq], by simpa using kis.2, [(k, b, w2)], .cons ⟨rfl, rfl, ry⟩ .nil, es, ep, g1, g2, g3, g4, g5⟩, ⟨o, g1⟩, ?_⟩, rfl, q2 o⟩
  rintro z1 z2 ⟨c1, c2, c3, ys', c4, es', ep', c5, c6⟩ hk
  exact ⟨c1, c2, c3, ys', c4, es', ep', hk _ c5, c6⟩
def dispN (fk fv : FD) : FD := fun e => (fk e).bind fun p => (fv p.2).bind fun q => if isTupD p.1 = true ∧ okKey p.1 = true then some (.dict [(p.1, q.1)], q.2) else none
theorem f_disp1 {X : Cx} {pos : Pos} {ke ve : Expr} {fk fv : FD} (hu : X.A.units + 64 < cLine) (hk : PD X ke fk) (hv : PD X ve fv) : PF X (.Dict [some ke] [ve] pos) (dispN fk fv) := (pe_disp1 hu hk hv).imp fun σ H Q q => by
  obtain ⟨F, env, d, env', R0, hf, k⟩ := q
  obtain ⟨⟨dk, e1⟩, h1, hf⟩ := Option.bind_eq_some_iff.mp hf
  obtain ⟨⟨dv, e2⟩, h2, hf⟩ := Option.bind_eq_some_iff.mp hf
  split at hf
  · rename_i hz
    cases hf
    intro p hp
    have RP := R0.plus hp (same_upd (o := .dK []) hp) upd_same
    refine ⟨_, env, dk, e1, RP, h1, fun v H1 R1 kd1 s1 a1 => ⟨_, e1, dv, _, R1, h2, fun w H2 R2 kd2 s2 a2 => ?_⟩⟩
    have nO : ¬ F.O0 p := fun z => R0.fresh hp (.inl z)
    have n0 := R0.fresh0 hp
    have hD : H2 p = some (.dK []) := R2.keep p _ (show upd F.H0 p (.dK []) p = _ from upd_same) fun z => by
      obtain ⟨u, q⟩ := R0.ms_there z
      rw [hp] at q; cases q
    have a1' := a1.mono s2.same
    obtain ⟨kk, k1, bk, kd, rfl, k3, k4, k5⟩ := (See.at a1').key hz.1 hz.2
    refine ⟨hD, kk, bk, rfl, ⟨bk, kd, rfl, k3, k4, k5⟩, fun o => ?_⟩
    obtain ⟨R3, s3⟩ := R2.replus (o' := dnO _ p o [(kk, bk, w)]) nO n0
    refine k p _ _ hp R3 (kd1.trans kd2) ?_ (.dicN upd_same (.cons (a1'.mono s3.same) k1 (a2.mono s3.same) .nil))
    refine Stp.trans (fun b u n e => ?_) ((s1.trans s2).trans s3)
    exact ⟨fun z => (ow_plus.mp z).elim (fun w => by rw [w, hp] at e; cases e) n, same_upd hp b u e⟩
  · cases hf
end DL

set_option Elab.async false
set_option linter.all false
set_option maxRecDepth 100000
namespace DL
open PySem L2
/-! {}; d[k] = v, k an int or a text -/
section
variable {X : Cx} {pins : List (Addr × Obj)} {σ : St} {H : Hp} {s : Shared} {a : Addr}
theorem same_but_refl {h : Heap} : Heap.SameBut a h h := ⟨rfl, fun _ _ => rfl⟩
theorem upd_idem {H : Hp} {a : Addr} {o o' : HO} : upd (upd H a o) a o' = upd H a o' := upd_upd
/-- an empty dict told in the other way -/
theorem toN (I : Inv X pins σ H s) (e : H a = some (.dK [])) : ∃ o, Inv X pins σ (upd H a (dnO X.lay a o [])) s := by
  obtain ⟨h1, o, es, ep, g1, g2, g3, g4, _, g5⟩ := dk_nil I (.inl e)
  refine ⟨o, d_write (t' := s.toks) I (by rw [e]; exact True.intro) same_but_refl ⟨o, g1⟩ ⟨⟨h1, by simp, by simp, [], .nil, es, ep, g1, g2, g3, g4, g5⟩, ⟨o, g1⟩, ?_⟩⟩
  rintro z1 z2 ⟨c1, c2, c3, ys', c4, es', ep', c5, c6⟩ hk
  exact ⟨c1, c2, c3, ys', c4, es', ep', hk _ c5, c6⟩
theorem toK {o : Obj} (I : Inv X pins σ H s) (e : H a = some (dnO X.lay a o [])) : Inv X pins σ (upd H a (.dK [])) s := by
  obtain ⟨⟨h1, _, _, ys, h4, es, ep, h5, h6, h7, h8, h9⟩, _⟩ := (show ObjOk X.prog X.w H s.heap a (dnO X.lay a o []) from I.hok a _ e)
  cases h4
  have he : es = #[] := by simpa using h8
  subst he
  exact d_write (t' := s.toks) I (by rw [e]; exact True.intro) same_but_refl ⟨o, h5⟩ ⟨Nat.zero_le _, h1, [], .nil, o, #[], ep, h5, h6, h7, (fun _ z => nomatch z), .nil, List.nodup_nil⟩
end
def newD : FD := fun e => some (.dict [], e)
theorem pe_dnewN {X : Cx} {pos : Pos} : PE X (.Dict [] [] pos) (fun _ H Q => ∀ p o, H p = none → Q (.ref p) (upd H p (dnO X.lay p o []))) := ⟨fun pins s σ H Q I h =>
  thn ((pe_dnewK (X := X)).run pins s σ H (fun v H' => ∃ p, v = .ref p ∧ H p = none ∧ H' = upd H p (.dK [])) I fun p hp => ⟨p, rfl, hp, rfl⟩) fun u s1 ⟨v, H', I', r, p, ev, hp, eH⟩ => by
    subst ev eH
    obtain ⟨o, I2⟩ := toN I' upd_same
    rw [upd_idem] at I2
    exact ⟨_, _, I2, r, h p o hp⟩⟩
theorem f_newD {X : Cx} {pos : Pos} : PF X (.Dict [] [] pos) newD := (pe_dnewN (X := X)).imp fun σ H Q q => by
  obtain ⟨F, env, d, env', R0, hf, k⟩ := q
  cases hf
  intro p o hp
  have sm : Same H (upd H p (dnO X.lay p o [])) := same_upd hp
  exact fresh_fin R0 R0 (Kd.refl _) Stp.refl sm hp upd_same (new_own hp sm (fun hs => .dicN upd_same .nil)) (k p _ _)
theorem rel_ownK {Y : Lay} {F : Fr} {σ : St} {H : Hp} {env : En} (R0 : Rel Y F σ H env) {i : Nat} {ps : List (Dt × Dt)} (h : ownD env i = some ps) (hk : keysOk ps = true) :
    ∃ a kvs, σ[i]? = some (some (V.ref a)) ∧ (H a = some (.dK kvs) ∨ (kvs = [] ∧ ∃ o, H a = some (dnO Y a o []))) ∧ AtK Y (hide (Ow F σ env) H) kvs ps := by
  obtain ⟨a, h1, h2, _⟩ := R0.own i _ (ownD_some h)
  cases h2 with
  | dicK g k _ => exact ⟨a, _, h1, .inl g, k⟩
  | dicN g k =>
    cases k with
    | nil => exact ⟨a, [], h1, .inr ⟨rfl, _, g⟩, .nil⟩
    | cons q1 q2 q3 q4 =>
      simp only [keysOk, List.all_cons, Bool.and_eq_true] at hk
      obtain ⟨kk, hk⟩ := Option.isSome_iff_exists.mp hk.1
      have := (keyOf_some hk).at q1
      cases kk <;> cases this
theorem Rel.dicK {Y : Lay} {F : Fr} {σ : St} {H : Hp} {env : En} (R0 : Rel Y F σ H env) {i : Nat} {a : Addr} {ps ps' : List (Dt × Dt)} {kvs' : List (Key × V)} (h : ownD env i = some ps) (hs : σ[i]? = some (some (V.ref a))) (k : AtK Y (hide (Ow F σ env) H) kvs' ps') (hn : ps' ≠ []) :
    Rel Y F σ (upd H a (.dK kvs')) (env.set i (.own (.dict ps'))) ∧ Kd env (env.set i (.own (.dict ps'))) ∧ Stp (Ow F σ env) H (Ow F σ (env.set i (.own (.dict ps')))) (upd H a (.dK kvs')) :=
  R0.write (ownD_some h) hs (fun b o hb e => by rw [upd_ne hb]; exact e) fun sm => .dicK upd_same (k.mono sm) hn
/-- d[k] = v, k an int or a text, d such a dict or an empty one -/
def rSetK (Y : Lay) : V → V → V → Hp → (Hp → Prop) → Prop := fun o i v H Q => ∃ a kvs k, o = .ref a ∧ i = kV k ∧ (H a = some (.dK kvs) ∨ (kvs = [] ∧ ∃ o, H a = some (dnO Y a o []))) ∧ kvs.length < sizeLine ∧ Q (upd H a (.dK (putK kvs k v)))
theorem set_K {X : Cx} (hu : X.A.units + 64 < cLine) : PSet X (rSetK X.lay) := by
  intro pins s σ H o i v ov iv u Q I ro ri rv h
  obtain ⟨a, kvs, k, rfl, rfl, e, hl, q⟩ := h
  rcases e with e | ⟨rfl, o, e⟩
  · exact set_dict (by omega) pins s σ H _ _ v ov iv u Q I ro ri rv ⟨a, _, rfl, DPut.k e hl, q⟩
  · refine set_dict (by omega) pins s σ _ _ _ v ov iv u Q (toK I e) ro ri rv ⟨a, _, rfl, DPut.k upd_same hl, ?_⟩
    rw [upd_idem]
    exact q
section
variable {X : Cx} {m : Nat} {pos p : Pos} {e : Expr} {x : Str}
/-- x[k] = e -/
def stK (i : Nat) (f fk : FD) : FS := fun e => (ownD e i).bind fun _ => (f e).bind fun p => (fk p.2).bind fun q => (ownD q.2 i).bind fun ps =>
  if keysOk ps = true ∧ (keyOf q.1).isSome = true ∧ ps.length < sizeLine then some (.nx (q.2.set i (.own (.dict (putP ps q.1 p.1))))) else none
theorem z_storeK (i : Nat) {ei : Expr} {f fk : FD} {psub : Pos} (hu : X.A.units + 64 < cLine) (he : PD X e f) (hk : PD X ei fk) (hN : X.N[i]? = some x := by rfl) (hv : Vis X.env.scope x := by first | exact Or.inl rfl | exact Or.inr (Or.inl rfl) | exact Or.inr (Or.inr rfl)) (hd : (x == ("__debug__" : Str)) = false := by decide) (hcd : (x == ("__classdict__" : Str)) = false := by decide)
    (ha : ∀ v, assign (.Subscript (.Name x p) ei psub) X.env v = (do
      let ov ← holding [v] (eval (.Name x p) X.env)
      let iv ← holding [v, ov] (eval ei X.env)
      standAt psub
      holding [v, ov, iv] (setItem ov iv v)
      release [v, ov, iv] []) := by intro _; rfl)
    (hs : swapsWithSole [.Subscript (.Name x p) ei psub] e pos.line X.env = pure false := by rfl) (hw : swappedStores [.Subscript (.Name x p) ei psub] e X.env = pure none := by rfl)
    (h1 : (assignEach [.Subscript (.Name x p) ei psub] X.env).map (·.2) = [assign (.Subscript (.Name x p) ei psub) X.env] := by rfl) :
    PZ X m (.Assign [.Subscript (.Name x p) ei psub] e pos) (stK i f fk) :=
  (ps_asg he (pg_sub (pe_var hN hv hd hcd) hk (set_K hu) ha) hs hw h1).imp fun D σ H q => by
    obtain ⟨F, env, out, hm, R0, hf, k⟩ := q
    obtain ⟨ps0, h0, hf⟩ := Option.bind_eq_some_iff.mp hf
    obtain ⟨⟨d, e1⟩, h1, hf⟩ := Option.bind_eq_some_iff.mp hf
    obtain ⟨⟨dk, e2⟩, h2, hf⟩ := Option.bind_eq_some_iff.mp hf
    obtain ⟨ps, h3, hf⟩ := Option.bind_eq_some_iff.mp hf
    split at hf
    · rename_i hz
      cases hf
      obtain ⟨z1, z2, z3⟩ := hz
      obtain ⟨kk, z2⟩ := Option.isSome_iff_exists.mp z2
      refine ⟨F, env, d, e1, R0, h1, fun v H1 R1 kd1 s1 a1 => ?_⟩
      obtain ⟨a, g1⟩ : ∃ a, σ[i]? = some (some (V.ref a)) := by
        obtain ⟨a, z, _⟩ := R0.own i _ (ownD_some h0)
        exact ⟨a, z⟩
      refine ⟨.ref a, g1, F, e1, dk, e2, R1, h2, fun w H2 R2 kd2 s2 a2 => ?_⟩
      obtain ⟨b, kvs, g3, g4, g5⟩ := rel_ownK R2 h3 z1
      rw [g1] at g3
      cases g3
      have kd := keyOf_some z2
      have hw := kd.at a2
      subst hw
      refine ⟨a, _, _, rfl, rfl, g4, by rw [g5.length]; exact z3, ?_⟩
      obtain ⟨R3, kd3, s3⟩ := R2.dicK h3 g1 (AtK.put kd (a1.mono s2.same) g5) putP_ne
      exact k σ _ R3 ((s1.trans s2).trans s3)
    · cases hf
end
end DL

set_option Elab.async false
set_option linter.all false
set_option maxRecDepth 100000
namespace DL
open PySem L2
/-! ### a dict with nested keys, walked: its very object is known, so nothing else is asked -/
section
variable {X : Cx} {pins : List (Addr × Obj)} {σ : St} {H : Hp} {s : Shared} {a : Addr} {o : Obj} {xs : List NEnt}
theorem dn_obj (I : Inv X pins σ H s) (e : Rd H a (dnO X.lay a o xs)) : (a == sysModules) = false ∧ s.heap.get? a = some o ∧ o.ExactDict ∧ ∃ es ep, o.data = .dict es ep ∧ es.size = xs.length ∧
    ∀ i x, xs[i]? = some x → ∃ hi : i < es.size, es[i].key = .ref x.2.1 ∧ RelV x.2.2 es[i].val := by
  obtain ⟨⟨h1, h2, h3, ys, h4, es, ep, h5, h6, h7, h8, h9⟩, _⟩ := (show ObjOk X.prog X.w H s.heap a (dnO X.lay a o xs) from rd_of I.hok e)
  have hsz : es.size = ys.length := size_of_entries h8
  have hl : xs.length = ys.length := Paired.length h4
  refine ⟨h1, h5, h6, es, ep, h7, by omega, fun i x hx => ?_⟩
  obtain ⟨y, hy, r1, r2, r3⟩ := paired_get h4 hx
  have hi : i < es.size := by
    have := (List.getElem?_eq_some_iff.mp hx).1
    omega
  have q := entry_at h8 i
  rw [hy, Array.getElem?_eq_getElem hi] at q
  have q' := Option.some.inj q
  exact ⟨hi, by rw [q', r2]; rfl, by rw [q']; exact r3⟩
end
/-- the keys -/
def ItNk (Y : Lay) (d : Addr) (o : Obj) (xs : List NEnt) : It :=
  ⟨fun i H => Rd H d (dnO Y d o xs) ∧ i < xs.length, fun i H x H' => H' = H ∧ ∃ e, xs[i]? = some e ∧ x = .ref e.2.1, fun i H => Rd H d (dnO Y d o xs) ∧ xs.length ≤ i⟩
/-- the values -/
def ItNv (Y : Lay) (d : Addr) (o : Obj) (xs : List NEnt) : It :=
  ⟨fun i H => Rd H d (dnO Y d o xs) ∧ i < xs.length, fun i H x H' => H' = H ∧ ∃ e, xs[i]? = some e ∧ x = e.2.2, fun i H => Rd H d (dnO Y d o xs) ∧ xs.length ≤ i⟩
/-- the pairs, each a new tuple -/
def ItNi (Y : Lay) (d : Addr) (o : Obj) (xs : List NEnt) : It :=
  ⟨fun i H => Rd H d (dnO Y d o xs) ∧ i < xs.length, fun i H x H' => ∃ T e, xs[i]? = some e ∧ x = .ref T ∧ H T = none ∧ H' = upd H T (.tup [.ref e.2.1, e.2.2]), fun i H => Rd H d (dnO Y d o xs) ∧ xs.length ≤ i⟩
section
variable {P : Program} {w : World} {K : PySem.W.Frag} {tg : Expr} {d : Addr} {o : Obj} {es : Array DictEntry} {ep : Nat} {xs : List NEnt}
theorem turn_Nk (it : Addr) (hod : o.data = .dict es ep) : Turn P w K tg (ItNk ⟨P, w, K⟩ d o xs) [it] it (fun i h => h.IsKeyIter it d i xs.length ep) where
  mem := by simp
  obj := fun i h st b hb => by
    have e : b = it := by simpa using hb
    subst e
    obtain ⟨oi, e, c, dd⟩ := st
    exact ⟨oi, e, fun v z => by rw [dd] at z; cases z⟩
  keep := fun i h h' st k => st.at fun oi e => k it (by simp) oi e
  item := by
    intro X hP hw hK hc i pins s σ H E I hf st hg
    subst hP hw hK
    obtain ⟨hd, hi⟩ := hg
    obtain ⟨f0, f1, f2, f3, f4, f5⟩ := hf it (by simp)
    obtain ⟨hs, hgd, hx, es', ep', hdt, hsz, ent⟩ := dn_obj I hd
    obtain ⟨rfl, rfl⟩ := dict_ep hod hdt
    obtain ⟨e, he⟩ : ∃ p, xs[i]? = some p := ⟨xs[i], List.getElem?_eq_getElem hi⟩
    obtain ⟨hi', hk, hv⟩ := ent i e he
    rw [← hsz] at st
    refine wpAny_pyNext_keys_item_raw st ⟨o, hgd, hx, hdt⟩ hi' fun h' st' sb => ?_
    have I1 : Inv X pins σ H { s with heap := h' } := I.turned (t' := s.toks) (fun b ob hb e => (sb.2 b hb).trans e) f0 f1 f3 f4 f5
    obtain ⟨oi, e', c, dd⟩ := id st'
    rw [hsz] at st'
    exact ⟨_, rfl, go_of (s := { s with heap := h' }) e' c dd (by decide) ⟨.ref e.2.1, H, I1, by rw [hk]; rfl, ⟨rfl, e, he, rfl⟩, st', fun b hb => (hf b hb).1⟩⟩
  done := by
    intro X hP hw hK hc i pins s σ H E I hf st hg
    subst hP hw hK
    obtain ⟨hd, hi⟩ := hg
    obtain ⟨f0, f1, f2, f3, f4, f5⟩ := hf it (by simp)
    obtain ⟨hs, hgd, hx, es', ep', hdt, hsz, ent⟩ := dn_obj I hd
    obtain ⟨rfl, rfl⟩ := dict_ep hod hdt
    rw [← hsz] at st
    exact wpAny_pyNext_keys_end_raw (I.ok.hd hc) st ⟨o, hgd, hx, hdt⟩ (by omega) fun h' eb => ⟨rfl, I.turned (t' := s.toks) (fun b ob hb e => eb b ob hb e) f0 f1 f3 f4 f5⟩
  self := fun A i s Q E st h => wpAny_pyIter_keyiter st h
theorem turn_Nv (it : Addr) (hod : o.data = .dict es ep) : Turn P w K tg (ItNv ⟨P, w, K⟩ d o xs) [it] it (fun i h => h.IsValIter it d i xs.length ep) where
  mem := by simp
  obj := fun i h st b hb => by
    have e : b = it := by simpa using hb
    subst e
    obtain ⟨oi, e, c, dd⟩ := st
    exact ⟨oi, e, fun v z => by rw [dd] at z; cases z⟩
  keep := fun i h h' st k => st.at fun oi e => k it (by simp) oi e
  item := by
    intro X hP hw hK hc i pins s σ H E I hf st hg
    subst hP hw hK
    obtain ⟨hd, hi⟩ := hg
    obtain ⟨f0, f1, f2, f3, f4, f5⟩ := hf it (by simp)
    obtain ⟨hs, hgd, hx, es', ep', hdt, hsz, ent⟩ := dn_obj I hd
    obtain ⟨rfl, rfl⟩ := dict_ep hod hdt
    obtain ⟨e, he⟩ : ∃ p, xs[i]? = some p := ⟨xs[i], List.getElem?_eq_getElem hi⟩
    obtain ⟨hi', hk, hv⟩ := ent i e he
    rw [← hsz] at st
    refine wpAny_pyNext_values_item_raw st ⟨o, hgd, hx, hdt⟩ hi' fun h' st' sb => ?_
    have I1 : Inv X pins σ H { s with heap := h' } := I.turned (t' := s.toks) (fun b ob hb e => (sb.2 b hb).trans e) f0 f1 f3 f4 f5
    obtain ⟨oi, e', c, dd⟩ := id st'
    rw [hsz] at st'
    exact ⟨_, rfl, go_of (s := { s with heap := h' }) e' c dd (by decide) ⟨e.2.2, H, I1, hv, ⟨rfl, e, he, rfl⟩, st', fun b hb => (hf b hb).1⟩⟩
  done := by
    intro X hP hw hK hc i pins s σ H E I hf st hg
    subst hP hw hK
    obtain ⟨hd, hi⟩ := hg
    obtain ⟨f0, f1, f2, f3, f4, f5⟩ := hf it (by simp)
    obtain ⟨hs, hgd, hx, es', ep', hdt, hsz, ent⟩ := dn_obj I hd
    obtain ⟨rfl, rfl⟩ := dict_ep hod hdt
    rw [← hsz] at st
    exact wpAny_pyNext_values_end_raw (I.ok.hd hc) st ⟨o, hgd, hx, hdt⟩ (by omega) fun h' eb => ⟨rfl, I.turned (t' := s.toks) (fun b ob hb e => eb b ob hb e) f0 f1 f3 f4 f5⟩
  self := fun A i s Q E st h => wpAny_pyIter_valiter st h
theorem turn_Ni {elts : List Expr} {kk : Nat} {tpos : Pos} (it : Addr) (hod : o.data = .dict es ep) :
    Turn P w K (.Tuple elts kk tpos) (ItNi ⟨P, w, K⟩ d o xs) [it] it (fun i h => ∃ ok ov, IsItemIter h it d i xs.length ep ok ov) where
  mem := by simp
  obj := fun i h st b hb => by
    have e : b = it := by simpa using hb
    subst e
    obtain ⟨ok, ov, e⟩ := st
    exact ⟨_, e, fun v z => nomatch z⟩
  keep := fun i h h' st k => let ⟨ok, ov, e⟩ := st; ⟨ok, ov, k it (by simp) _ e⟩
  item := by
    intro X hP hw hK hc i pins s σ H E I hf st hg
    subst hP hw hK
    obtain ⟨hd, hi⟩ := hg
    obtain ⟨hs, hgd, hx, es', ep', hdt, hsz, ent⟩ := dn_obj I hd
    obtain ⟨rfl, rfl⟩ := dict_ep hod hdt
    obtain ⟨e, he⟩ : ∃ p, xs[i]? = some p := ⟨xs[i], List.getElem?_eq_getElem hi⟩
    obtain ⟨hi', hk, hv⟩ := ent i e he
    obtain ⟨ok, ov, st⟩ := st
    rw [← hsz] at st
    have hlt : it < s.heap.objs.size := Heap.lt_size st
    refine wpAny_pyNext_items_item_raw st ⟨o, hgd, hx, hdt⟩ hi' fun h' ho hT hz hkp => ?_
    refine ⟨_, rfl, wpAny_letOwnedTupleGo_items (s := { s with heap := h' }) ho fun h'' he' sb => ?_⟩
    have hT2 : h''.get? s.heap.objs.size = some { cls := .type "tuple", data := .seq #[es'[i].key, es'[i].val] } := (sb.2 _ (Nat.ne_of_gt hlt)).trans hT
    have new : ObjOk X.prog X.w (upd H s.heap.objs.size (.tup [.ref e.2.1, e.2.2])) h'' s.heap.objs.size (.tup [.ref e.2.1, e.2.2]) :=
      ⟨by show 2 ≤ sizeLine; decide, [es'[i].key, es'[i].val], .cons (by rw [hk]; rfl) (.cons hv .nil), ⟨_, hT2, rfl, _, rfl⟩⟩
    have I1 : Inv X pins σ (upd H s.heap.objs.size (.tup [.ref e.2.1, e.2.2])) { s with heap := h'' } :=
      I.turnedNew (t' := s.toks) (ch := [it]) (fun b ob hb e => (sb.2 b (by simpa using hb)).trans (hkp b ob (by simpa using hb) e)) hf (Nat.le_refl _) new
    refine ⟨.ref s.heap.objs.size, _, I1, rfl, ⟨_, e, he, rfl, I.hok.fresh (Nat.le_refl _), rfl⟩, ⟨es'[i].key, es'[i].val, ?_⟩, fun b hb => ?_⟩
    · rw [← hsz]; exact he'
    · have e' : b = it := by simpa using hb
      rw [e', upd_ne (Nat.ne_of_lt hlt)]
      exact (hf it (by simp)).1
  done := by
    intro X hP hw hK hc i pins s σ H E I hf st hg
    subst hP hw hK
    obtain ⟨hd, hi⟩ := hg
    obtain ⟨f0, f1, f2, f3, f4, f5⟩ := hf it (by simp)
    obtain ⟨hs, hgd, hx, es', ep', hdt, hsz, ent⟩ := dn_obj I hd
    obtain ⟨rfl, rfl⟩ := dict_ep hod hdt
    obtain ⟨ok, ov, st⟩ := st
    rw [← hsz] at st
    exact wpAny_pyNext_items_end_raw (I.ok.hd hc) st ⟨o, hgd, hx, hdt⟩ (by omega) fun h' eb => ⟨rfl, I.turned (t' := s.toks) (fun b ob hb e => eb b ob hb e) f0 f1 f3 f4 f5⟩
  self := fun A i s Q E st h => let ⟨_, _, e⟩ := st; wpAny_pyIter_itemiter e h
end
def iNk (Y : Lay) (td : TE) : TI := fun σ H R => td σ H fun x H1 => ∃ d o xs, x = .ref d ∧ Rd H1 d (dnO Y d o xs) ∧ R (ItNk Y d o xs) H1
def iNv (Y : Lay) (td : TE) : TI := fun σ H R => td σ H fun x H1 => ∃ d o xs, x = .ref d ∧ Rd H1 d (dnO Y d o xs) ∧ R (ItNv Y d o xs) H1
def iNi (Y : Lay) (td : TE) : TI := fun σ H R => td σ H fun x H1 => ∃ d o xs, x = .ref d ∧ Rd H1 d (dnO Y d o xs) ∧ R (ItNi Y d o xs) H1
section
variable {X : Cx} {tg e : Expr} {td : TE} {apos cpos : Pos}
theorem pi_Nk (he : PE X e td) : PI X tg e (iNk X.lay td) := by
  refine ⟨fun pins s σ H R I h => ?_⟩
  refine thn (he.run pins s σ H _ I h) fun u s1 ⟨x, H1, I1, rx, d, o, xs, ex, hd, q⟩ => ?_
  subst ex
  obtain rfl : u = Value.ref d := rx
  obtain ⟨hs, hgd, hx, es, ep, hdt, hsz, ent⟩ := dn_obj I1 hd
  refine iter_keys hs hgd hx hdt (pi_one (tk := s1.toks) I1 _ (turn_Nk _ hdt) ⟨_, Heap.get?_push_size _ rfl, rfl, ?_⟩ q)
  rw [hsz] <;> rfl
theorem pi_Nv (he : PE X e td) (hbase : attributeBase e "values" X.env (eval e X.env) = eval e X.env := by rfl) (hline : (apos.endLine == cpos.line) = true := by rfl) : PI X tg (.Call (.Attribute e "values" apos) [] [] cpos) (iNv X.lay td) := by
  refine ⟨fun pins s σ H R I h => ?_⟩
  refine wpAny_Call_method (T := "dict") (id := "dict.values") hbase rfl hline F.plainAttrs_dict F.slot_dict_values F.type_dict_values (thn (he.run pins s σ H _ I h) fun u s1 ⟨x, H1, I1, rx, d, o, xs, ex, hd, q⟩ => ?_)
  subst ex
  obtain rfl : u = Value.ref d := rx
  obtain ⟨hs, hgd, hx, es, ep, hdt, hsz, ent⟩ := dn_obj I1 hd
  have raw : s1.heap.DictRaw d es ep := ⟨o, hgd, hx, hdt⟩
  refine ⟨raw.typeIs, fun b hb => by cases hb; exact ⟨o, hgd, hx.2.1⟩, ?_⟩
  have I2 : Inv X pins σ H1 { s1 with heap := s1.heap.push { cls := .type "dict_values", data := .fields #[.ref d] } } := I1.kept (t' := s1.toks) fun b ob q => Heap.get?_push_of_some _ q
  have fin : wpAny (model X.prog X.w) X.A (pyIter (.ref s1.heap.objs.size)) (PIE X pins σ tg R) X.xe { s1 with heap := s1.heap.push { cls := .type "dict_values", data := .fields #[.ref d] } } := by
    refine wpAny_pyIter_values_raw (d := d) ⟨_, Heap.get?_push_size _ rfl, rfl, rfl⟩ (raw.at fun o q => Heap.get?_push_of_some _ q) (pi_one (tk := s1.toks) I2 _ (turn_Nv _ hdt) ⟨_, Heap.get?_push_size _ rfl, rfl, ?_⟩ q)
    rw [hsz] <;> rfl
  show wpAny _ _ (callWith cpos (.builtin "dict.values") [.ref d] [] []) _ X.xe s1
  exact method_meetsIn F.slot_dict_values F.entry_dict_values rfl (PySem.evalArgs_none ⟨rfl, raw.typeIs, F.args_dict_values_1 _, _, meets_dict_values_raw d hs, ⟨es, ep, raw⟩, fin⟩)
theorem pi_Ni {elts : List Expr} {kk : Nat} {tpos : Pos} (he : PE X e td) (hbase : attributeBase e "items" X.env (eval e X.env) = eval e X.env := by rfl) (hline : (apos.endLine == cpos.line) = true := by rfl) :
    PI X (.Tuple elts kk tpos) (.Call (.Attribute e "items" apos) [] [] cpos) (iNi X.lay td) := by
  refine ⟨fun pins s σ H R I h => ?_⟩
  refine wpAny_Call_method (T := "dict") (id := "dict.items") hbase rfl hline F.plainAttrs_dict F.slot_dict_items F.type_dict_items (thn (he.run pins s σ H _ I h) fun u s1 ⟨x, H1, I1, rx, d, o, xs, ex, hd, q⟩ => ?_)
  subst ex
  obtain rfl : u = Value.ref d := rx
  obtain ⟨hs, hgd, hx, es, ep, hdt, hsz, ent⟩ := dn_obj I1 hd
  have raw : s1.heap.DictRaw d es ep := ⟨o, hgd, hx, hdt⟩
  refine ⟨raw.typeIs, fun b hb => by cases hb; exact ⟨o, hgd, hx.2.1⟩, ?_⟩
  have I2 : Inv X pins σ H1 { s1 with heap := s1.heap.push { cls := .type "dict_items", data := .fields #[.ref d] } } := I1.kept (t' := s1.toks) fun b ob q => Heap.get?_push_of_some _ q
  have fin : wpAny (model X.prog X.w) X.A (pyIter (.ref s1.heap.objs.size)) (PIE X pins σ (.Tuple elts kk tpos) R) X.xe { s1 with heap := s1.heap.push { cls := .type "dict_items", data := .fields #[.ref d] } } := by
    refine wpAny_pyIter_items_raw (d := d) ⟨_, Heap.get?_push_size _ rfl, rfl, rfl⟩ (raw.at fun o q => Heap.get?_push_of_some _ q) (pi_one (tk := s1.toks) I2 _ (turn_Ni _ hdt) ⟨.none, .none, ?_⟩ q)
    rw [← hsz]
    exact Heap.get?_push_size _ rfl
  show wpAny _ _ (callWith cpos (.builtin "dict.items") [.ref d] [] []) _ X.xe s1
  exact method_meetsIn F.slot_dict_items F.entry_dict_items rfl (PySem.evalArgs_none ⟨rfl, raw.typeIs, F.args_dict_items_1 _, _, meets_dict_items_raw d hs, ⟨es, ep, raw⟩, fin⟩)
end
/-! on data -/
def dkeys (d : Dt) : Option (List Dt) := match d with
  | .dict ps => if keysN ps = true then some (ps.map (·.1)) else none
  | _ => none
def dvals (d : Dt) : Option (List Dt) := match d with
  | .dict ps => if keysN ps = true then some (ps.map (·.2)) else none
  | _ => none
def dits (d : Dt) : Option (List Dt) := match d with
  | .dict ps => if keysN ps = true then some (ps.map fun p => .tuple [p.1, p.2]) else none
  | _ => none
def keysI (f : FV) : FI := fun e => (f e).bind fun p => (toD p.2 p.1).bind fun d => (dkeys d).bind fun ds => some (ds, p.2)
theorem AtN.get {Y : Lay} {H : Hp} : ∀ {xs : List NEnt} {ps : List (Dt × Dt)} {i : Nat} {p : Dt × Dt}, AtN Y H xs ps → ps[i]? = some p → ∃ x, xs[i]? = some x ∧ At Y H (.ref x.2.1) p.1 ∧ At Y H x.2.2 p.2
  | _, _, _, _, .nil, h => by simp at h
  | _, _, 0, _, .cons h1 h2 h3 h4, h => by
    simp only [List.getElem?_cons_zero, Option.some.injEq] at h
    subst h
    exact ⟨_, rfl, h1, h3⟩
  | _, _, i + 1, _, .cons h1 h2 h3 h4, h => by
    obtain ⟨x, q⟩ := AtN.get (i := i) h4 (by simpa using h)
    exact ⟨x, by simpa using q.1, q.2⟩
theorem dn_line {X : Cx} {pins : List (Addr × Obj)} {σ : St} {H : Hp} {s : Shared} (I : Inv X pins σ H s) : ∀ a o xs, Rd H a (dnO X.lay a o xs) → xs.length ≤ sizeLine := fun a o xs e => by
  obtain ⟨⟨_, h2, _⟩, _⟩ := (show ObjOk X.prog X.w H s.heap a (dnO X.lay a o xs) from rd_of I.hok e)
  exact h2
def BdN (Y : Lay) (H : Hp) : Prop := ∀ a o xs, Rd H a (dnO Y a o xs) → xs.length ≤ sizeLine
theorem _root_.L2.PE.bdn {X : Cx} {e : Expr} {t : TE} (h : PE X e t) : PE X e (fun σ H Q => t σ H fun v H' => BdN X.lay H' → Q v H') := ⟨fun pins s σ H Q I q =>
  thn (h.run pins s σ H _ I q) fun u s' ⟨v, H', I', r, q'⟩ => ⟨v, H', I', r, q' (dn_line I')⟩⟩
/-- the dict that data tell, seen by all -/
theorem See.dNo {Y : Lay} {H : Hp} {v : V} {ps : List (Dt × Dt)} (h : At Y H v (.dict ps)) (hk : keysN ps = true) : ∃ a o xs, v = .ref a ∧ Rd H a (dnO Y a o xs) ∧ AtN Y H xs ps := by
  cases h with
  | scr _ _ => simp [keysN, isTupD] at hk
  | dicK h k hn =>
    cases k with
    | nil => exact absurd rfl hn
    | int _ _ => simp [keysN, isTupD] at hk
    | str _ _ => simp [keysN, isTupD] at hk
  | dicN h k => exact ⟨_, _, _, rfl, h, k⟩
section
variable {Y : Lay} {O1 : Addr → Prop} {H1 : Hp} {a : Addr} {o : Obj} {xs : List NEnt} {ps : List (Dt × Dt)}
theorem rd_stp {O' : Addr → Prop} {H' : Hp} (h : Rd (hide O1 H1) a (dnO Y a o xs)) (st : Stp O1 H1 O' H') : Rd H' a (dnO Y a o xs) := Same.rd (hide_le _ _) (Same.rd st.same h)
theorem yl_Nk (h : Rd (hide O1 H1) a (dnO Y a o xs)) (k : AtN Y (hide O1 H1) xs ps) : Yields Y (ItNk Y a o xs) O1 H1 (ps.map (·.1)) := by
  intro i O' H' st hO
  refine ⟨fun d hd => ?_, fun hl => ⟨rd_stp h st, by rw [k.len]; simpa using Nat.le_of_eq hl⟩⟩
  rw [List.getElem?_map] at hd
  obtain ⟨p, hp, rfl⟩ := Option.map_eq_some_iff.mp hd
  obtain ⟨x, g1, g2, g3⟩ := AtN.get k hp
  refine ⟨⟨rd_stp h st, (List.getElem?_eq_some_iff.mp g1).1⟩, fun y H'' yy => ?_⟩
  obtain ⟨rfl, e, g4, rfl⟩ := yy
  rw [g1] at g4
  cases g4
  exact ⟨Same.refl _, g2.mono st.same⟩
theorem yl_Nv (h : Rd (hide O1 H1) a (dnO Y a o xs)) (k : AtN Y (hide O1 H1) xs ps) : Yields Y (ItNv Y a o xs) O1 H1 (ps.map (·.2)) := by
  intro i O' H' st hO
  refine ⟨fun d hd => ?_, fun hl => ⟨rd_stp h st, by rw [k.len]; simpa using Nat.le_of_eq hl⟩⟩
  rw [List.getElem?_map] at hd
  obtain ⟨p, hp, rfl⟩ := Option.map_eq_some_iff.mp hd
  obtain ⟨x, g1, g2, g3⟩ := AtN.get k hp
  refine ⟨⟨rd_stp h st, (List.getElem?_eq_some_iff.mp g1).1⟩, fun y H'' yy => ?_⟩
  obtain ⟨rfl, e, g4, rfl⟩ := yy
  rw [g1] at g4
  cases g4
  exact ⟨Same.refl _, g3.mono st.same⟩
theorem yl_Ni (h : Rd (hide O1 H1) a (dnO Y a o xs)) (k : AtN Y (hide O1 H1) xs ps) : Yields Y (ItNi Y a o xs) O1 H1 (ps.map fun p => .tuple [p.1, p.2]) := by
  intro i O' H' st hO
  refine ⟨fun d hd => ?_, fun hl => ⟨rd_stp h st, by rw [k.len]; simpa using Nat.le_of_eq hl⟩⟩
  rw [List.getElem?_map] at hd
  obtain ⟨p, hp, rfl⟩ := Option.map_eq_some_iff.mp hd
  obtain ⟨x, g1, g2, g3⟩ := AtN.get k hp
  refine ⟨⟨rd_stp h st, (List.getElem?_eq_some_iff.mp g1).1⟩, fun y H'' yy => ?_⟩
  obtain ⟨T, e, g4, rfl, hT, rfl⟩ := yy
  rw [g1] at g4
  cases g4
  exact pair_at hO hT (g2.mono st.same) (g3.mono st.same)
end
def dI (sel : Dt → Option (List Dt)) (f : FD) : FI := fun e => (f e).bind fun p => (sel p.1).bind fun ds => some (ds, p.2)
section
variable {X : Cx} {tg e : Expr} {apos cpos : Pos} {f : FD}
theorem dsel {d : Dt} {g : Dt × Dt → Dt} {ds : List Dt} (h : (match d with | .dict ps => if keysN ps = true then some (ps.map g) else none | _ => none) = some ds) : ∃ ps, d = .dict ps ∧ keysN ps = true ∧ ds = ps.map g := by
  split at h
  · split at h
    · rename_i ps hk
      cases h
      exact ⟨ps, rfl, hk, rfl⟩
    · cases h
  · cases h
theorem i_Nk (he : PD X e f) : PId X tg e (dI dkeys f) := (pi_Nk he.bdn).imp fun σ H R q => by
  obtain ⟨F, env, ds, env', R0, hf, k⟩ := q
  obtain ⟨⟨d, e1⟩, h1, hf⟩ := Option.bind_eq_some_iff.mp hf
  obtain ⟨ds', h2, hf⟩ := Option.bind_eq_some_iff.mp hf
  cases hf
  obtain ⟨ps, ed, hk, rfl⟩ := dsel (g := (·.1)) h2
  simp only at ed
  subst ed
  refine ⟨F, env, _, e1, R0, h1, fun v H1 R1 kd s a bd => ?_⟩
  obtain ⟨b, o, xs, rfl, hb, kb⟩ := See.dNo a hk
  refine ⟨b, o, xs, rfl, Same.rd (hide_le _ _) hb, k _ H1 R1 kd s (yl_Nk hb kb) ?_⟩
  rw [List.length_map, ← kb.len]
  exact bd _ _ _ (Same.rd (hide_le _ _) hb)
theorem i_Nv (he : PD X e f) (hbase : attributeBase e "values" X.env (eval e X.env) = eval e X.env := by rfl) (hline : (apos.endLine == cpos.line) = true := by rfl) : PId X tg (.Call (.Attribute e "values" apos) [] [] cpos) (dI dvals f) := (pi_Nv he.bdn hbase hline).imp fun σ H R q => by
  obtain ⟨F, env, ds, env', R0, hf, k⟩ := q
  obtain ⟨⟨d, e1⟩, h1, hf⟩ := Option.bind_eq_some_iff.mp hf
  obtain ⟨ds', h2, hf⟩ := Option.bind_eq_some_iff.mp hf
  cases hf
  obtain ⟨ps, ed, hk, rfl⟩ := dsel (g := (·.2)) h2
  simp only at ed
  subst ed
  refine ⟨F, env, _, e1, R0, h1, fun v H1 R1 kd s a bd => ?_⟩
  obtain ⟨b, o, xs, rfl, hb, kb⟩ := See.dNo a hk
  refine ⟨b, o, xs, rfl, Same.rd (hide_le _ _) hb, k _ H1 R1 kd s (yl_Nv hb kb) ?_⟩
  rw [List.length_map, ← kb.len]
  exact bd _ _ _ (Same.rd (hide_le _ _) hb)
theorem i_Ni {elts : List Expr} {kk : Nat} {tpos : Pos} (he : PD X e f) (hbase : attributeBase e "items" X.env (eval e X.env) = eval e X.env := by rfl) (hline : (apos.endLine == cpos.line) = true := by rfl) : PId X (.Tuple elts kk tpos) (.Call (.Attribute e "items" apos) [] [] cpos) (dI dits f) := (pi_Ni he.bdn hbase hline).imp fun σ H R q => by
  obtain ⟨F, env, ds, env', R0, hf, k⟩ := q
  obtain ⟨⟨d, e1⟩, h1, hf⟩ := Option.bind_eq_some_iff.mp hf
  obtain ⟨ds', h2, hf⟩ := Option.bind_eq_some_iff.mp hf
  cases hf
  obtain ⟨ps, ed, hk, rfl⟩ := dsel (g := fun p => .tuple [p.1, p.2]) h2
  simp only at ed
  subst ed
  refine ⟨F, env, _, e1, R0, h1, fun v H1 R1 kd s a bd => ?_⟩
  obtain ⟨b, o, xs, rfl, hb, kb⟩ := See.dNo a hk
  refine ⟨b, o, xs, rfl, Same.rd (hide_le _ _) hb, k _ H1 R1 kd s (yl_Ni hb kb) ?_⟩
  rw [List.length_map, ← kb.len]
  exact bd _ _ _ (Same.rd (hide_le _ _) hb)
end
end DL

set_option Elab.async false
set_option linter.all false
set_option maxRecDepth 100000
namespace DL
open PySem L2
/-! ### len(d), d.get(k), d.get(k, x), list(d): nested keys; sorted(d): keys that are ints -/
section
variable {X : Cx}
theorem call_lenN : CallR X (.builtin "len") (fun xs H Q => ∃ a zs, xs = [V.ref a] ∧ RdN X.lay H a zs ∧ Q (.int zs.length) H) := by
  intro pins s σ H xs us Q I r h
  obtain ⟨a, zs, rfl, ⟨o, ha⟩, q⟩ := h
  obtain ⟨u, rfl, ru⟩ := vals1 r
  cases ru
  obtain ⟨hs, hgd, hx, es, ep, hdt, hsz, ent⟩ := dn_obj I ha
  have raw : s.heap.DictRaw a es ep := ⟨o, hgd, hx, hdt⟩
  have hl := dn_line I a o zs ha
  refine PyProof.Rows.call_len_slot (n := zs.length) raw.typeIs F.slot_dict_len (fun Q' hq => call_len_raw hs raw ?_) (by omega) (by rw [sizeLine_eq] at hl; omega) ?_
  · rw [hsz]; exact hq
  · exact ⟨.int zs.length, H, I.tok _, ⟨_, rfl⟩, q⟩
theorem call_listN (hc : X.calm = true) : CallR X (.type "list") (fun xs H Q => ∃ p zs, xs = [.ref p] ∧ RdN X.lay H p zs ∧ ∀ l, H l = none → Q (.ref l) (upd H l (.lst (zs.map fun x => .ref x.2.1)))) := by
  intro pins s σ H xs us Q I r h
  obtain ⟨a, zs, rfl, ⟨o, ha⟩, q⟩ := h
  obtain ⟨u, rfl, ru⟩ := vals1 r
  cases ru
  obtain ⟨hs, hgd, hx, es, ep, hdt, hsz, ent⟩ := dn_obj I ha
  have raw : s.heap.DictRaw a es ep := ⟨o, hgd, hx, hdt⟩
  have hl := dn_line I a o zs ha
  refine PySem.W.kdl_call (KdlSrc.rawDict hs) (I.ok.hd hc) raw (by omega) fun h' tk acc' c' hk hS hit => ?_
  refine ⟨.ref s.heap.objs.size, _, I.laid (t' := tk) hk (Nat.le_refl _) (show ObjOk X.prog X.w _ h' _ (.lst (zs.map fun x => V.ref x.2.1)) from ⟨by simpa using hl, acc'.toList, c', ?_, by rw [Array.toArray_toList]; exact hS⟩), rfl, q _ (I.hok.fresh (Nat.le_refl _))⟩
  obtain ⟨h1, h2⟩ := hit
  have all : ∀ (n : Nat) (zs' : List NEnt) (l : List Value), zs'.length = l.length → (∀ (i : Nat) (x : NEnt), zs'[i]? = some x → ∃ v, l[i]? = some v ∧ v = Value.ref x.2.1) → Vals (zs'.map fun x => V.ref x.2.1) l := by
    intro n zs'
    induction zs' with
    | nil =>
      intro l hl _
      cases l with
      | nil => exact .nil
      | cons _ _ => simp at hl
    | cons x zs' ih =>
      intro l hl hh
      cases l with
      | nil => simp at hl
      | cons v l =>
        obtain ⟨v', e1, e2⟩ := hh 0 x rfl
        simp only [List.getElem?_cons_zero, Option.some.injEq] at e1
        subst e1 e2
        exact .cons rfl (ih l (by simpa using hl) fun i y hy => by
          obtain ⟨v', e1, e2⟩ := hh (i + 1) y (by simpa using hy)
          exact ⟨v', by simpa using e1, e2⟩)
  refine all 0 zs acc'.toList (by simpa [Array.length_toList] using (h1.trans hsz).symm) fun i x hx => ?_
  obtain ⟨hi, k1, k2⟩ := ent i x hx
  have hi' : i < acc'.size := by omega
  obtain ⟨hi2, e⟩ := h2 i acc'[i] (by simp [hi'])
  exact ⟨acc'[i], by simp [hi'], by rw [e, k1]⟩
end
def lenND : List Dt → Option Dt
  | [d] => (dkeys d).bind fun ks => some (.int ks.length)
  | _ => none
def listND : List Dt → Option Dt
  | [d] => (dkeys d).bind fun ks => some (.list ks)
  | _ => none
section
variable {Y : Lay}
theorem sem_lenN : SemC Y (fun xs H Q => ∃ a zs, xs = [V.ref a] ∧ RdN Y H a zs ∧ Q (.int zs.length) H) lenND := by
  intro O H xs ds d Q hO hs hg k
  unfold lenND at hg
  split at hg
  · obtain ⟨ks, h1, hg⟩ := Option.bind_eq_some_iff.mp hg
    cases hg
    obtain ⟨ps, rfl, h2, rfl⟩ := dsel (g := (·.1)) h1
    obtain ⟨x, rfl, h⟩ := hs.one
    obtain ⟨a, zs, rfl, h3, h4⟩ := h.dN h2
    refine ⟨a, zs, rfl, h3, ?_⟩
    rw [h4.len]
    exact k _ H (Same.refl _) (by rw [List.length_map]; exact .int _)
  · cases hg
theorem AtN.keysA {H : Hp} : ∀ {xs : List NEnt} {ps : List (Dt × Dt)}, AtN Y H xs ps → Ats Y H (xs.map fun x => .ref x.2.1) (ps.map (·.1))
  | _, _, .nil => .nil
  | _, _, .cons h1 _ _ h4 => .cons h1 (AtN.keysA h4)
theorem sem_listN : SemFC Y (fun xs H Q => ∃ p zs, xs = [.ref p] ∧ RdN Y H p zs ∧ ∀ l, H l = none → Q (.ref l) (upd H l (.lst (zs.map fun x => .ref x.2.1)))) listND := by
  intro O H xs ds d Q hO hs hg k
  unfold listND at hg
  split at hg
  · obtain ⟨ks, h1, hg⟩ := Option.bind_eq_some_iff.mp hg
    cases hg
    obtain ⟨ps, rfl, h2, rfl⟩ := dsel (g := (·.1)) h1
    obtain ⟨x, rfl, h⟩ := hs.one
    obtain ⟨a, zs, rfl, h3, h4⟩ := h.dN h2
    exact ⟨a, zs, rfl, h3, fun p hp => k p _ _ hp upd_same (same_upd hp) (new_lst hp (AtN.keysA h4))⟩
  · cases hg
end
/-! d.get(k), d.get(k, x) -/
section
variable {X : Cx} {pins : List (Addr × Obj)} {σ : St} {H : Hp} {s : Shared} {a : Addr} {xs : List NEnt} {ps : List (Dt × Dt)} {A : Around} {E : Value → Shared → Prop}
theorem rel_getD {v : Option V} {p : Option (Addr × Value)} {y : V} {r : Value} (h : (v = none ∧ p = none) ∨ ∃ w q, v = some w ∧ p = some q ∧ RelV w q.2) (ry : RelV y r) : RelV (v.getD y) ((p.map (·.2)).getD r) := by
  rcases h with ⟨rfl, rfl⟩ | ⟨w, q, rfl, rfl, r'⟩
  · exact ry
  · exact r'
theorem n_get1 {b : Addr} {k : NestedKey} {Q : Value → Shared → Prop} (hu : A.units + 64 < cLine) (I : Inv X pins σ H s) (e : RdN X.lay H a xs) (n : AtN X.lay H xs ps) (ki : (nestedKind X.prog X.w).is s.heap k b)
    (h : ∀ w' s', Inv X pins σ H s' → RelV ((valN xs k).getD .non) w' → Q w' s') : wpAny (model X.prog X.w) A (call (.builtin "dict.get") [.ref a, .ref b]) Q E s := by
  obtain ⟨h1, h2, _, ys, h3, dd⟩ := dn_rd I e n
  refine call_meetsIn PySem.F.slot_dict_get dd.typeIs PySem.F.entry_dict_get (PySem.F.args_dict_get_2 _ _) (meetsH_dict_get (nestedKind X.prog X.w) a b h1) ⟨room_n hu, k, ys, ki, dd, h _ _ (I.tok _) ?_⟩
  exact rel_getD (h3.val k) rfl
theorem n_get2 {b : Addr} {k : NestedKey} {y : V} {r : Value} {Q : Value → Shared → Prop} (hu : A.units + 64 < cLine) (I : Inv X pins σ H s) (e : RdN X.lay H a xs) (n : AtN X.lay H xs ps) (ki : (nestedKind X.prog X.w).is s.heap k b) (ry : RelV y r)
    (h : ∀ w' s', Inv X pins σ H s' → RelV ((valN xs k).getD y) w' → Q w' s') : wpAny (model X.prog X.w) A (call (.builtin "dict.get") [.ref a, .ref b, r]) Q E s := by
  obtain ⟨h1, h2, _, ys, h3, dd⟩ := dn_rd I e n
  refine call_meetsIn PySem.F.slot_dict_get dd.typeIs PySem.F.entry_dict_get (PySem.F.args_dict_get_3 _ _ _) (meetsH_dict_get_default (nestedKind X.prog X.w) a b h1 r) ⟨room_n hu, k, ys, ki, dd, h _ _ (I.tok _) ?_⟩
  exact rel_getD (h3.val k) ry
end
def tNGet1 (Y : Lay) (td ty : TE) : TE := fun σ H Q => td σ H fun x H1 => ∃ a, x = .ref a ∧ (∃ zs, RdN Y H1 a zs) ∧ ty σ H1 fun y H2 => ∃ zs ps k, RdN Y H2 a zs ∧ AtN Y H2 zs ps ∧ KeyIs Y H2 y k ∧ Q ((valN zs k).getD .non) H2
def tNGet2 (Y : Lay) (td ty tx : TE) : TE := fun σ H Q => td σ H fun x H1 => ∃ a, x = .ref a ∧ (∃ zs, RdN Y H1 a zs) ∧ ty σ H1 fun y H2 => tx σ H2 fun z H3 => ∃ zs ps k, RdN Y H3 a zs ∧ AtN Y H3 zs ps ∧ KeyIs Y H3 y k ∧ Q ((valN zs k).getD z) H3
section
variable {X : Cx} {o e f : Expr} {apos cpos : Pos} {td ty tx : TE}
theorem pe_nget1 (hu : X.A.units + 64 < cLine) (ho : PE X o td) (he : PE X e ty) (m : M1 X o "get" apos e cpos) : PE X (.Call (.Attribute o "get" apos) [e] [] cpos) (tNGet1 X.lay td ty) := by
  refine ⟨fun pins s σ H Q I h => ?_⟩
  refine wpAny_Call_method m.base m.few m.line PySem.F.plainAttrs_dict PySem.F.slot_dict_get PySem.F.type_dict_get (thn (ho.run pins s σ H _ I h) fun u s1 ⟨x, H1, I1, rx, a, ex, ⟨zs, oz, hz⟩, q1⟩ => ?_)
  subst ex
  obtain rfl : u = Value.ref a := rx
  obtain ⟨hs, hgd, hx, es, ep, hdt, hsz, ent⟩ := dn_obj I1 hz
  refine ⟨⟨oz, hgd, hx.1⟩, fun b hb => by cases hb; exact ⟨oz, hgd, hx.2.1⟩, ?_⟩
  rw [m.trees]
  refine Calls.callWith_builtin rfl (Calls.evalArgs_plain (Calls.spliced_cons (thn (he.run pins s1 σ H1 _ I1 q1) fun iv s2 ⟨y, H2, I2, ry, zs', ps, k, g1, g2, g3, q2⟩ => Calls.spliced_nil ?_)))
  obtain ⟨b, rfl, rfl, ki⟩ := g3.is I2 ry
  exact n_get1 hu I2 g1 g2 ki fun w' s3 I3 rw' => ⟨_, H2, I3, rw', q2⟩
theorem pe_nget2 (hu : X.A.units + 64 < cLine) (ho : PE X o td) (he : PE X e ty) (hf : PE X f tx) (m : M2 X o "get" apos e f cpos) : PE X (.Call (.Attribute o "get" apos) [e, f] [] cpos) (tNGet2 X.lay td ty tx) := by
  refine ⟨fun pins s σ H Q I h => ?_⟩
  refine wpAny_Call_method m.base m.few m.line PySem.F.plainAttrs_dict PySem.F.slot_dict_get PySem.F.type_dict_get (thn (ho.run pins s σ H _ I h) fun u s1 ⟨x, H1, I1, rx, a, ex, ⟨zs, oz, hz⟩, q1⟩ => ?_)
  subst ex
  obtain rfl : u = Value.ref a := rx
  obtain ⟨hs, hgd, hx, es, ep, hdt, hsz, ent⟩ := dn_obj I1 hz
  refine ⟨⟨oz, hgd, hx.1⟩, fun b hb => by cases hb; exact ⟨oz, hgd, hx.2.1⟩, ?_⟩
  rw [m.trees]
  refine Calls.callWith_builtin rfl (Calls.evalArgs_plain (Calls.spliced_cons (thn (he.run pins s1 σ H1 _ I1 q1) fun iv s2 ⟨y, H2, I2, ry, q2⟩ => Calls.spliced_cons (thn (hf.run pins s2 σ H2 _ I2 q2) fun fv s3 ⟨z, H3, I3, rz, zs', ps, k, g1, g2, g3, q3⟩ => Calls.spliced_nil ?_))))
  obtain ⟨b, rfl, rfl, ki⟩ := g3.is I3 ry
  exact n_get2 hu I3 g1 g2 ki rz fun w' s4 I4 rw' => ⟨_, H3, I4, rw', q3⟩
def getNG (d k : Dt) : Option (Option Dt) := match d with
  | .dict ps => if keysN ps = true ∧ isTupD k = true ∧ okKey k = true then some (getNd ps k) else none
  | _ => none
theorem getNG_some {d k : Dt} {r : Option Dt} (h : getNG d k = some r) : ∃ ps, d = .dict ps ∧ keysN ps = true ∧ isTupD k = true ∧ okKey k = true ∧ r = getNd ps k := by
  unfold getNG at h
  split at h
  · split at h
    · rename_i ps hz
      cases h
      exact ⟨_, rfl, hz.1, hz.2.1, hz.2.2, rfl⟩
    · cases h
  · cases h
def isDicN (d : Dt) : Bool := match d with
  | .dict ps => keysN ps
  | _ => false
theorem isDicN_some {d : Dt} (h : isDicN d = true) : ∃ ps, d = .dict ps ∧ keysN ps = true := by
  cases d with
  | dict ps => exact ⟨ps, rfl, h⟩
  | _ => cases h
def nget1D (fd : FV) (fk : FD) : FD := fun e => (fd e).bind fun p => (toD p.2 p.1).bind fun d0 => if isDicN d0 = true then (fk p.2).bind fun q => (toD q.2 p.1).bind fun d => (getNG d q.1).bind fun o => some (o.getD .none, q.2) else none
def nget2D (fd : FV) (fk fx : FD) : FD := fun e => (fd e).bind fun p => (toD p.2 p.1).bind fun d0 => if isDicN d0 = true then (fk p.2).bind fun q => (fx q.2).bind fun r => (toD r.2 p.1).bind fun d => (getNG d q.1).bind fun o => some (o.getD r.1, r.2) else none
theorem d_nget1 {fo : FV} {fk : FD} (hu : X.A.units + 64 < cLine) (ho : PV X o fo) (he : PD X e fk) (m : M1 X o "get" apos e cpos := by exact ⟨rfl, rfl, rfl, rfl⟩) : PD X (.Call (.Attribute o "get" apos) [e] [] cpos) (nget1D fo fk) := (pe_nget1 hu ho he m).imp fun σ H Q q => by
  obtain ⟨F, env, d, env', R0, hf, k⟩ := q
  obtain ⟨⟨r1, e1⟩, h1, hf⟩ := Option.bind_eq_some_iff.mp hf
  obtain ⟨d0, h2, hf⟩ := Option.bind_eq_some_iff.mp hf
  split at hf
  · rename_i hd0
    obtain ⟨⟨dk, e2⟩, h4, hf⟩ := Option.bind_eq_some_iff.mp hf
    obtain ⟨d1, h6, hf⟩ := Option.bind_eq_some_iff.mp hf
    obtain ⟨o1, h7, hf⟩ := Option.bind_eq_some_iff.mp hf
    cases hf
    refine ⟨F, env, r1, e1, R0, h1, fun v1 H1 R1 kd1 s1 a1 => ?_⟩
    obtain ⟨ps0, rfl, g1⟩ := isDicN_some hd0
    obtain ⟨a, zs0, rfl, g3, _⟩ := (a1.see' R1 h2).dN g1
    refine ⟨a, rfl, ⟨zs0, g3⟩, F, e1, dk, _, R1, h4, fun v2 H2 R2 kd2 s2 a2 => ?_⟩
    obtain ⟨ps1, rfl, g4, g5, g6, rfl⟩ := getNG_some h7
    obtain ⟨b, zs1, eb, g7, g8⟩ := ((a1.step kd2 s2).see' R2 h6).dN g4
    cases eb
    obtain ⟨kk, k1, k2⟩ := (See.at a2).key g5 g6
    refine ⟨zs1, ps1, kk, g7, g8.mono (hide_le _ _), k2, ?_⟩
    have hg : getNd ps1 dk = getN ps1 kk := by unfold getNd; rw [k1]; rfl
    rcases g8.val kk with ⟨z1, z2⟩ | ⟨v, d, z1, z2, z3⟩
    · rw [z1]
      refine k _ H2 R2 (kd1.trans kd2) (s1.trans s2) ?_
      have : (getNd ps1 dk).getD .none = .none := by rw [hg, z2]; rfl
      rw [this]
      exact .non
    · rw [z1]
      refine k v H2 R2 (kd1.trans kd2) (s1.trans s2) ?_
      have : (getNd ps1 dk).getD .none = d := by rw [hg, z2]; rfl
      rw [this]
      exact z3
  · cases hf
theorem d_nget2 {fo : FV} {fk fx : FD} (hu : X.A.units + 64 < cLine) (ho : PV X o fo) (he : PD X e fk) (hf : PD X f fx) (m : M2 X o "get" apos e f cpos := by exact ⟨rfl, rfl, rfl, rfl⟩) : PD X (.Call (.Attribute o "get" apos) [e, f] [] cpos) (nget2D fo fk fx) := (pe_nget2 hu ho he hf m).imp fun σ H Q q => by
  obtain ⟨F, env, d, env', R0, hf, k⟩ := q
  obtain ⟨⟨r1, e1⟩, h1, hf⟩ := Option.bind_eq_some_iff.mp hf
  obtain ⟨d0, h2, hf⟩ := Option.bind_eq_some_iff.mp hf
  split at hf
  · rename_i hd0
    obtain ⟨⟨dk, e2⟩, h4, hf⟩ := Option.bind_eq_some_iff.mp hf
    obtain ⟨⟨dx, e3⟩, h5, hf⟩ := Option.bind_eq_some_iff.mp hf
    obtain ⟨d1, h6, hf⟩ := Option.bind_eq_some_iff.mp hf
    obtain ⟨o1, h7, hf⟩ := Option.bind_eq_some_iff.mp hf
    cases hf
    refine ⟨F, env, r1, e1, R0, h1, fun v1 H1 R1 kd1 s1 a1 => ?_⟩
    obtain ⟨ps0, rfl, g1⟩ := isDicN_some hd0
    obtain ⟨a, zs0, rfl, g3, _⟩ := (a1.see' R1 h2).dN g1
    refine ⟨a, rfl, ⟨zs0, g3⟩, F, e1, dk, _, R1, h4, fun v2 H2 R2 kd2 s2 a2 => ⟨F, e2, dx, _, R2, h5, fun v3 H3 R3 kd3 s3 a3 => ?_⟩⟩
    obtain ⟨ps1, rfl, g4, g5, g6, rfl⟩ := getNG_some h7
    obtain ⟨b, zs1, eb, g7, g8⟩ := (((a1.step kd2 s2).step kd3 s3).see' R3 h6).dN g4
    cases eb
    obtain ⟨kk, k1, k2⟩ := (See.at (a2.mono s3.same)).key g5 g6
    refine ⟨zs1, ps1, kk, g7, g8.mono (hide_le _ _), k2, ?_⟩
    have hg : getNd ps1 dk = getN ps1 kk := by unfold getNd; rw [k1]; rfl
    have kd := (kd1.trans kd2).trans kd3
    have st := (s1.trans s2).trans s3
    rcases g8.val kk with ⟨z1, z2⟩ | ⟨v, d, z1, z2, z3⟩
    · rw [z1]
      refine k _ H3 R3 kd st ?_
      have : (getNd ps1 dk).getD dx = dx := by rw [hg, z2]; rfl
      rw [this]
      exact a3
    · rw [z1]
      refine k v H3 R3 kd st ?_
      have : (getNd ps1 dk).getD dx = d := by rw [hg, z2]; rfl
      rw [this]
      exact z3
  · cases hf
end
/-! ### sorted(d), d's keys ints -/
def keyInts : List (Dt × Dt) → Option (List Int)
  | [] => some []
  | (.int i, _) :: ps => (keyInts ps).bind fun is => some (i :: is)
  | _ => none
def sortI (is : List Int) : List Int := is.mergeSort (fun a b => decide (a ≤ b))
theorem sortI_perm (is : List Int) : (sortI is).Perm is := List.mergeSort_perm ..
theorem sortI_pw (is : List Int) : (sortI is).Pairwise (· ≤ ·) := by
  have := List.pairwise_mergeSort (le := fun (a b : Int) => decide (a ≤ b)) (fun a b c h1 h2 => by simp only [decide_eq_true_eq] at *; omega) (fun a b => by simp only [Bool.or_eq_true, decide_eq_true_eq]; omega) is
  exact this.imp fun h => by simpa using h
theorem sortI_uniq {is js : List Int} (h : js.Perm is) (hp : js.Pairwise (· ≤ ·)) : js = sortI is :=
  List.Perm.eq_of_pairwise (le := (· ≤ ·)) (fun a b _ _ h1 h2 => by omega) hp (sortI_pw is) (h.trans (sortI_perm is).symm)
def sortKD : List Dt → Option Dt
  | [.dict ps] => (keyInts ps).bind fun is => if is.length < 64 ∧ is ≠ [] then some (.list ((sortI is).map .int)) else none
  | _ => none
theorem keyInts_ok : ∀ {ps : List (Dt × Dt)} {is : List Int}, keyInts ps = some is → keysOk ps = true ∧ ps.length = is.length
  | [], _, h => by cases h; exact ⟨rfl, rfl⟩
  | (.int i, d) :: ps, _, h => by
    obtain ⟨js, h1, h2⟩ := Option.bind_eq_some_iff.mp h
    cases h2
    obtain ⟨a, b⟩ := keyInts_ok h1
    exact ⟨by unfold keysOk at *; rw [List.all_cons, a]; rfl, by simp [b]⟩
  | (.none, _) :: _, _, h => by cases h
  | (.bool _, _) :: _, _, h => by cases h
  | (.str _, _) :: _, _, h => by cases h
  | (.list _, _) :: _, _, h => by cases h
  | (.tuple _, _) :: _, _, h => by cases h
  | (.dict _, _) :: _, _, h => by cases h
theorem AtK.inl {Y : Lay} {H : Hp} : ∀ {kvs : List (Key × V)} {ps : List (Dt × Dt)} {is : List Int}, AtK Y H kvs ps → keyInts ps = some is → kvs.map (·.1) = is.map Sum.inl
  | _, _, _, .nil, h => by cases h; rfl
  | _, _, _, .int _ k, h => by
    obtain ⟨js, h1, h2⟩ := Option.bind_eq_some_iff.mp h
    cases h2
    simp only [List.map_cons, AtK.inl k h1]
  | _, _, _, .str _ k, h => by cases h
section
variable {X : Cx} {Y : Lay}
abbrev rSortKI : List V → Hp → VK → Prop := fun xs H Q => ∃ (a : Addr) (kvs : List (Key × V)) (ks : List Int), xs = [.ref a] ∧ Rd H a (.dK kvs) ∧ kvs.map (·.1) = ks.map Sum.inl ∧ ks.length < 64 ∧ ∀ (ys : List Int) (p : Addr), ys.Perm ks → ys.Pairwise (· ≤ ·) → H p = none → Q (.ref p) (upd H p (.lst (ys.map V.int)))
theorem sem_sortK : SemFC Y rSortKI sortKD := by
  intro O H xs ds d Q hO hs hg k
  unfold sortKD at hg
  split at hg
  · rename_i ps
    obtain ⟨is, h1, hg⟩ := Option.bind_eq_some_iff.mp hg
    split at hg
    · rename_i hz
      cases hg
      obtain ⟨k1, k2⟩ := keyInts_ok h1
      obtain ⟨x, rfl, h⟩ := hs.one
      obtain ⟨a, kvs, rfl, h3, h4⟩ := h.dK k1 (fun z => hz.2 (List.eq_nil_of_length_eq_zero (by rw [← k2, z]; rfl)))
      refine ⟨a, kvs, is, rfl, h3, AtK.inl h4 h1, hz.1, fun ys p hy hp hn => ?_⟩
      rw [sortI_uniq hy hp]
      exact k p _ _ hn upd_same (same_upd hn) (new_lst hn (ats_ints _))
    · cases hg
  · cases hg
variable {x : Str} {p pos : Pos} {e : Expr} {es : List Expr} {f : FA} {id : String}
theorem f_callB {r : List V → Hp → VK → Prop} {g : List Dt → Option Dt} (hc : CallR X (.builtin id) r) (hs : SemFC X.lay r g) (hm : X.mg x = none) (hv : bootBuiltins x = some (.builtin id)) (ha : PAs X (e :: es) f) (hg : Gl X x := by rfl) (hn : x ≠ "__name__" := by decide) (hdb : (x == ("__debug__" : Str)) = false := by decide)
    (he : starEach (e :: es) X.env = (false, eval e X.env) :: starEach es X.env := by rfl) (hpl : (backTo pos (starEach es X.env)).any (·.1) = false := by rfl) : PF X (.Call (.Name x p) (e :: es) [] pos) (callD g f) :=
  (pe_callB hc hg hm hv ha hn hdb he hpl).imp (call_useF hs)
end
end DL

set_option Elab.async false
set_option linter.all false
set_option maxRecDepth 100000
namespace DL
open PySem L2
/-! ### sorted(xs), xs a list of data that are all of one shape -/
def sortP (bs : List (V × Dt)) : List (V × Dt) := bs.mergeSort (PySem.W.dataLe false fun b : V × Dt => b.2)
def sortDs (ds : List Dt) : List Dt := ds.mergeSort (PySem.W.dataLe false fun d : Dt => d)
theorem sortP_snd (bs : List (V × Dt)) : (sortP bs).map (·.2) = sortDs (bs.map (·.2)) := PySem.W.sort_maps (r := PySem.W.dataLe false fun b : V × Dt => b.2) (s := PySem.W.dataLe false fun d : Dt => d) (fun b => b.2) fun _ _ _ _ => rfl
theorem DpAll.each {K : PySem.W.Frag} {H : Hp} : ∀ {vs : List V} {ds : List Dt}, DpAll K H vs ds → vs.length = ds.length ∧ ∀ p ∈ vs.zip ds, Dp K H p.1 p.2
  | _, _, .nil => ⟨rfl, fun _ h => nomatch h⟩
  | _, _, .cons h k => by
    obtain ⟨a, b⟩ := DpAll.each k
    refine ⟨by simp [a], fun p hp => ?_⟩
    rcases List.mem_cons.mp hp with rfl | hp
    · exact h
    · exact b p hp
def rSortA (K : PySem.W.Frag) : List V → Hp → VK → Prop := fun xs H Q => ∃ a vs ds, xs = [.ref a] ∧ SqL K H a vs ∧ DpAll K H vs ds ∧ PySem.W.AllAlike ds ∧ PySem.W.Sortable ds ∧ (∀ d ∈ ds, d.depth ≤ 40) ∧
  ∀ p, H p = none → Q (.ref p) (upd H p (.lst ((sortP (vs.zip ds)).map (·.1))))
section
variable {X : Cx}
theorem call_sortedA (hu : X.A.units + 64 < cLine) : CallR X (.builtin "sorted") (rSortA X.K) := by
  intro pins s σ H xs us Q I r h
  obtain ⟨a, vs, ds, rfl, hq, hd, al, so, dp, q⟩ := h
  obtain ⟨u, rfl, ru⟩ := vals1 r
  cases ru
  obtain ⟨its, rv, pl, hz⟩ := I.list hq
  obtain ⟨hl, he⟩ := DpAll.each hd
  have hlen := rv.length
  have mk2 : (vs.zip ds).map (fun b => b.2) = ds := by rw [List.map_snd_zip]; omega
  have each : ∀ {vs : List V} {ds : List Dt} {its : List Value}, Vals vs its → vs.length = ds.length → PySem.W.EachIs (fun u (b : V × Dt) => RelV b.1 u) its (vs.zip ds) := by
    intro vs ds its r
    induction r generalizing ds with
    | nil => intro hl; cases ds with
      | nil => exact .nil
      | cons _ _ => simp at hl
    | cons r t ih =>
      intro hl
      cases ds with
      | nil => simp at hl
      | cons d ds => exact .cons r (ih (by simpa using hl))
  have er : PySem.W.EachIs (fun u (b : V × Dt) => ∃ as, Reads s.heap u b.2 as) its (vs.zip ds) := by
    have all : ∀ {bs : List (V × Dt)} {its : List Value}, PySem.W.EachIs (fun u (b : V × Dt) => RelV b.1 u) its bs → (∀ p ∈ bs, Dp X.K H p.1 p.2) → PySem.W.EachIs (fun u (b : V × Dt) => ∃ as, Reads s.heap u b.2 as) its bs := by
      intro bs its e
      induction e with
      | nil => intro _; exact .nil
      | cons r t ih => intro hh; exact .cons (Dp.reads I _ _ _ (hh _ (by simp)) r) (ih fun p hp => hh p (by simp [hp]))
    exact all (each rv hl) he
  refine PySem.W.sorted_data (enc := fun b : V × Dt => b.2) pl.isList (each rv hl) er (by rw [mk2]; exact al) (by rw [mk2]; exact so) (by rw [List.length_zip]; omega) (fun b hb => ?_) fun out ho hout => ?_
  · have := dp b.2 (List.of_mem_zip hb).2
    omega
  · obtain ⟨c, hc⟩ := PyProof.Rows.sortedAll_at s.heap its out.toArray
    have rel : Vals ((sortP (vs.zip ds)).map (·.1)) out := by
      have all : ∀ {bs : List (V × Dt)} {out : List Value}, PySem.W.EachIs (fun u (b : V × Dt) => RelV b.1 u) out bs → Vals (bs.map (·.1)) out := by
        intro bs out e
        induction e with
        | nil => exact .nil
        | cons r t ih => exact .cons r ih
      exact all hout
    refine ⟨.ref (s.heap.objs.size + 1), _, I.laid (t' := s.toks) (fun _ _ => PyProof.Rows.sortedAll_old) (Nat.le_succ _) (show ObjOk X.prog X.w _ _ _ (.lst ((sortP (vs.zip ds)).map (·.1))) from ⟨?_, out, c, rel, hc⟩), rfl, q _ (I.hok.fresh (Nat.le_succ _))⟩
    unfold sortP
    rw [List.length_map, List.length_mergeSort, List.length_zip]
    omega
end
/-! on data -/
def alikeB (ds : List Dt) : Bool := ds.all fun d => ds.all fun e => PySem.W.alike d e
def tupB : Dt → Bool
  | .tuple (_ :: _) => true
  | _ => false
def sortG : List Dt → Option Dt
  | [.list ds] => if okD (.list ds) = true ∧ ds.all (fun d => decide (d.depth ≤ 40)) = true ∧ alikeB ds = true ∧ ds.all tupB = true then some (.list (sortDs ds)) else none
  | _ => none
theorem Ats.pairs {Y : Lay} {H : Hp} : ∀ {vs : List V} {ds : List Dt}, Ats Y H vs ds → ∀ b ∈ vs.zip ds, At Y H b.1 b.2
  | _, _, .nil, _, h => nomatch h
  | _, _, .cons h k, b, hb => by
    rcases List.mem_cons.mp hb with rfl | hb
    · exact h
    · exact Ats.pairs k b hb
theorem Ats.ofPairs {Y : Lay} {H : Hp} : ∀ {bs : List (V × Dt)}, (∀ b ∈ bs, At Y H b.1 b.2) → Ats Y H (bs.map (·.1)) (bs.map (·.2))
  | [], _ => .nil
  | b :: bs, h => .cons (h b (by simp)) (Ats.ofPairs fun c hc => h c (by simp [hc]))
theorem Ats.sorted {Y : Lay} {H : Hp} {vs : List V} {ds : List Dt} (h : Ats Y H vs ds) : Ats Y H ((sortP (vs.zip ds)).map (·.1)) (sortDs ds) := by
  have hl := h.length
  have e : (vs.zip ds).map (·.2) = ds := by rw [List.map_snd_zip]; omega
  have := Ats.ofPairs (bs := sortP (vs.zip ds)) fun b hb => h.pairs b (List.mem_mergeSort.mp hb)
  rw [sortP_snd, e] at this
  exact this
theorem sem_sortA {Y : Lay} : SemFC Y (rSortA Y.K) sortG := by
  intro O H xs ds d Q hO hs hg k
  unfold sortG at hg
  split at hg
  · rename_i es
    split at hg
    · rename_i hz
      cases hg
      obtain ⟨z1, z2, z3, z4⟩ := hz
      obtain ⟨x, rfl, h⟩ := hs.one
      have hp := okAll z1
      have dp := h.full.dp (okP z1)
      obtain ⟨a, vs, rfl, ha, ka⟩ := h.lst
      have hd : DpAll Y.K H vs es := (ka.mono (hide_le _ _)).dp hp.1
      refine ⟨a, vs, es, rfl, SqL.of ha, hd, fun x hx y hy => ?_, .inl fun x hx => ?_, fun x hx => ?_, fun p hp => k p _ _ hp upd_same (same_upd hp) (new_lst hp ka.sorted)⟩
      · exact List.all_eq_true.mp (List.all_eq_true.mp z3 x hx) y hy
      · have := List.all_eq_true.mp z4 x hx
        cases x with
        | tuple zs => cases zs with
          | nil => cases this
          | cons z zs => exact ⟨z, zs, rfl⟩
        | _ => cases this
      · exact of_decide_eq_true (List.all_eq_true.mp z2 x hx)
    · cases hg
  · cases hg
section
variable {X : Cx} {x : Str} {p pos : Pos} {j k n : Nat} {G : FF}
/-- f() -/
theorem c_callZ (C : Cal X.prog X.w X.K X.mg X.base x k n G) (hr : Room j X.A) (hk : k ≤ j) (hg : Gl X x := by rfl) (hdb : (x == ("__debug__" : Str)) = false := by decide) : PD X (.Call (.Name x p) [] [] pos) (cl0 G aN) := by
  obtain ⟨f, fd, ps, h1, h2, h3, h4⟩ := C.ex
  refine (pe_call0 (E := E0) h1 (hr.mono hk) hg h2 h3 h4 .nil pass0 hdb).imp fun σ H Q q => ?_
  obtain ⟨F, env, rs, env', R0, hf, kk⟩ := call0_use (E := E0) C.hn σ H Q q
  cases hf
  exact kk [] H R0 (Kd.refl _) Stp.refl .nil
end
end DL

set_option Elab.async false
set_option linter.all false
set_option maxRecDepth 100000
namespace DL
open PySem PySem.Spec PyProof.Rows L2
/-! ### dict comprehensions with nested keys: one clause, or two -/
/-- what one turn of a comprehension's loop asks for; body: what is done with an item that is kept -/
def TurnQ (X : Cx) (it : Value) (tg : Expr) (ifs : List Expr) (body : (Shared → Prop) → (Value → Shared → Prop) → Shared → Prop) (fin nxt : Shared → Prop) (E : Value → Shared → Prop) (s : Shared) : Prop :=
  wpAny (model X.prog X.w) X.A (pyNext it) (fun r s1 => match r with
    | none => fin s1
    | some v => wpAny (model X.prog X.w) X.A (letOwnedTupleGo tg it v) (fun _ s2 => wpAny (model X.prog X.w) X.A (assign tg X.env v) (fun _ s3 =>
        wpAny (model X.prog X.w) X.A (forIn ifs true fun c r => if r = true then do let ok ← isTrue c X.env (eval c X.env); pure (ForInStep.yield ok) else pure (ForInStep.yield r)) (fun ok s4 =>
          if ok = true then body nxt E s4 else nxt s4) E s3) E s2) E s1) E s
def bodyA (X : Cx) (kx vx : Expr) (D : Addr) (P : Shared → Prop) (E : Value → Shared → Prop) (s : Shared) : Prop :=
  wpAny (model X.prog X.w) X.A (eval kx X.env) (fun k s1 => wpAny (model X.prog X.w) X.A (eval vx X.env) (fun v s2 => wpAny (model X.prog X.w) X.A (dictSet D k v) (fun _ s3 => P s3) E s2) E s1) E s
def bodyB (X : Cx) (e i1 : Expr) (acc : Value) (P : Shared → Prop) (E : Value → Shared → Prop) (s : Shared) : Prop :=
  wpAny (model X.prog X.w) X.A (eval i1 X.env) (fun x s1 => wpAny (model X.prog X.w) X.A (pyIter x) (fun it1 s2 =>
    codeAny (model X.prog X.w) X.A (.compStart e 1 it1 acc X.env) (fun r s3 => match r with
      | .ok _ => P s3
      | .error _ => False) s2) E s1) E s
section
variable {X : Cx} {R : Result → Shared → Prop} {s : Shared} {kx vx tg : Expr} {gs : List Comprehension} {scope : Scope} {pos ip kp : Pos} {ifs : List Expr} {it : Value} {D : Addr}
theorem loopA {d : Nat} (hct : compTurn (.DictComp kx vx gs scope pos) d it (.ref D) X.env = (do
      standAt ip
      match ← pyNext it with
      | none => pure (.done .next)
      | some v =>
        letOwnedTupleGo tg it v
        assign tg X.env v
        let mut ok := true
        for c in ifs do
          if ok then ok ← isTrue c X.env (eval c X.env)
        if ok then
          (do
            let k ← eval kx X.env
            let v ← holding [k] (eval vx X.env)
            standAt kp
            holding [k, v] (dictSet D k v))
        again (.compLoop (.DictComp kx vx gs scope pos) d it (.ref D) X.env))) (I : Nat → Shared → Prop)
    (turn : ∀ n s, I n s → TurnQ X it tg ifs (bodyA X kx vx D) (R (.ok .next)) (fun s' => ∃ m, m < n ∧ I m s') (notedBy (model X.prog X.w) X.A X.env fun x s' => R (.error x) s') s) (n : Nat) (h : I n s) :
    codeAny (model X.prog X.w) X.A (.compLoop (.DictComp kx vx gs scope pos) d it (.ref D) X.env) R s := by
  refine codeAny_loop rfl I (fun n s hI => ?_) n h
  show wpAny _ X.A ((compTurn (.DictComp kx vx gs scope pos) d it (.ref D) X.env).onRaise (fun x => do noteFrame x X.env; theTreesLotGoes x)) _ _ s
  rw [hct]
  refine wpAny_noted (wpAny_bind (wpAny_standAt (wpAny_bind (wpAny_mono (turn n s hI) (fun r s1 h1 => ?_) fun _ _ z => z))))
  cases r with
  | none => exact wpAny_pure h1
  | some v =>
    refine wpAny_bind (wpAny_mono h1 (fun _ s2 h2 => wpAny_bind (wpAny_mono h2 (fun _ s3 h3 => wpAny_bind (wpAny_mono h3 (fun ok s4 h4 => ?_) fun _ _ z => z)) fun _ _ z => z)) fun _ _ z => z)
    cases ok with
    | false => exact wpAny_pure ⟨rfl, h4⟩
    | true =>
      refine wpAny_bind (wpAny_bind (wpAny_mono h4 (fun k s5 h5 => wpAny_bind (wpAny_holding (wpAny_mono h5 (fun v s6 h6 => ?_) fun _ _ z => z))) fun _ _ z => z))
      exact wpAny_bind (wpAny_standAt (wpAny_holding (wpAny_mono h6 (fun _ s7 h7 => wpAny_pure ⟨rfl, h7⟩) fun _ _ z => z)))
theorem loopB {i1 : Expr} {acc : Value} (hct : compTurn (.DictComp kx vx gs scope pos) 0 it acc X.env = (do
      standAt ip
      match ← pyNext it with
      | none => pure (.done .next)
      | some v =>
        letOwnedTupleGo tg it v
        assign tg X.env v
        let mut ok := true
        for c in ifs do
          if ok then ok ← isTrue c X.env (eval c X.env)
        if ok then
          let x ← eval i1 X.env
          standAt kp
          let x ← foldedSetIterable i1 X.env x
          let _ ← runOwn (.compStart (.DictComp kx vx gs scope pos) 1 (← holding [x] (pyIter x)) acc X.env) X.env
        again (.compLoop (.DictComp kx vx gs scope pos) 0 it acc X.env))) (hs : ∀ x, foldedSetIterable i1 X.env x = pure x) (I : Nat → Shared → Prop)
    (turn : ∀ n s, I n s → TurnQ X it tg ifs (bodyB X (.DictComp kx vx gs scope pos) i1 acc) (R (.ok .next)) (fun s' => ∃ m, m < n ∧ I m s') (notedBy (model X.prog X.w) X.A X.env fun x s' => R (.error x) s') s) (n : Nat) (h : I n s) :
    codeAny (model X.prog X.w) X.A (.compLoop (.DictComp kx vx gs scope pos) 0 it acc X.env) R s := by
  refine codeAny_loop rfl I (fun n s hI => ?_) n h
  show wpAny _ X.A ((compTurn (.DictComp kx vx gs scope pos) 0 it acc X.env).onRaise (fun x => do noteFrame x X.env; theTreesLotGoes x)) _ _ s
  rw [hct]
  refine wpAny_noted (wpAny_bind (wpAny_standAt (wpAny_bind (wpAny_mono (turn n s hI) (fun r s1 h1 => ?_) fun _ _ z => z))))
  cases r with
  | none => exact wpAny_pure h1
  | some v =>
    refine wpAny_bind (wpAny_mono h1 (fun _ s2 h2 => wpAny_bind (wpAny_mono h2 (fun _ s3 h3 => wpAny_bind (wpAny_mono h3 (fun ok s4 h4 => ?_) fun _ _ z => z)) fun _ _ z => z)) fun _ _ z => z)
    cases ok with
    | false => exact wpAny_pure ⟨rfl, h4⟩
    | true =>
      refine wpAny_bind (wpAny_mono h4 (fun x s5 h5 => wpAny_bind (wpAny_standAt (wpAny_bind (wpAny_of_eq (hs x) (wpAny_bind (wpAny_holding (wpAny_mono h5 (fun it1 s6 h6 => ?_) fun _ _ z => z))))))) fun _ _ z => z)
      refine wpAny_bind (wpAny_runOwn ?_)
      rw [Around.mark_none]
      refine codeAny_mono h6 fun r s7 h7 => ?_
      cases r with
      | ok f =>
        first
          | exact wpAny_pure ⟨rfl, h7⟩
          | exact wpAny_bind (wpAny_pure (wpAny_pure ⟨rfl, h7⟩))
      | error x => exact h7.elim
end
section
variable {kx vx t0 i0 t1 i1 : Expr} {ifs0 ifs1 : List Expr} {scope : Scope} {pos : Pos} {it : Value} {D : Addr} {env : Env}
theorem turn2out : compTurn (.DictComp kx vx [⟨t0, i0, ifs0, 0⟩, ⟨t1, i1, ifs1, 0⟩] scope pos) 0 it (.ref D) env = (do
      standAt i0.pos
      match ← pyNext it with
      | none => pure (.done .next)
      | some v =>
        letOwnedTupleGo t0 it v
        assign t0 env v
        let mut ok := true
        for c in ifs0 do
          if ok then ok ← isTrue c env (eval c env)
        if ok then
          let x ← eval i1 env
          standAt i1.pos
          let x ← foldedSetIterable i1 env x
          let _ ← runOwn (.compStart (.DictComp kx vx [⟨t0, i0, ifs0, 0⟩, ⟨t1, i1, ifs1, 0⟩] scope pos) 1 (← holding [x] (pyIter x)) (.ref D) env) env
        again (.compLoop (.DictComp kx vx [⟨t0, i0, ifs0, 0⟩, ⟨t1, i1, ifs1, 0⟩] scope pos) 0 it (.ref D) env)) := by rfl
theorem turn2in : compTurn (.DictComp kx vx [⟨t0, i0, ifs0, 0⟩, ⟨t1, i1, ifs1, 0⟩] scope pos) 1 it (.ref D) env = (do
      standAt i1.pos
      match ← pyNext it with
      | none => pure (.done .next)
      | some v =>
        letOwnedTupleGo t1 it v
        assign t1 env v
        let mut ok := true
        for c in ifs1 do
          if ok then ok ← isTrue c env (eval c env)
        if ok then
          (do
            let k ← eval kx env
            let v ← holding [k] (eval vx env)
            standAt { kx.pos with endLine := vx.pos.endLine, endCol := vx.pos.endCol }
            holding [k, v] (dictSet D k v))
        again (.compLoop (.DictComp kx vx [⟨t0, i0, ifs0, 0⟩, ⟨t1, i1, ifs1, 0⟩] scope pos) 1 it (.ref D) env)) := by rfl
variable {prog : Program} {w : World} {A : Around} {R : Result → Shared → Prop} {s : Shared} {acc : Value}
theorem start2 (h0 : codeAny (model prog w) A (.compLoop (.DictComp kx vx [⟨t0, i0, ifs0, 0⟩, ⟨t1, i1, ifs1, 0⟩] scope pos) 1 it acc env) R s)
    (h : wpAny (model prog w) A (pyIter it) (fun it' s' => codeAny (model prog w) A (.compLoop (.DictComp kx vx [⟨t0, i0, ifs0, 0⟩, ⟨t1, i1, ifs1, 0⟩] scope pos) 1 it' acc env) R s') (notedBy (model prog w) A env fun x s' => R (.error x) s') s) :
    codeAny (model prog w) A (.compStart (.DictComp kx vx [⟨t0, i0, ifs0, 0⟩, ⟨t1, i1, ifs1, 0⟩] scope pos) 1 it acc env) R s := by
  refine codeAny_of_tree ?_
  show wpAny _ _ ((compStart (.DictComp kx vx [⟨t0, i0, ifs0, 0⟩, ⟨t1, i1, ifs1, 0⟩] scope pos) 1 it acc env).onRaise (fun x => do noteFrame x env; standAt theWindowsPlace)) _ _ s
  refine wpAny_notedAt ?_
  unfold compStart
  show wpAny _ _ (ask >>= _) _ _ s
  refine wpAny_bind (wpAny_askSetting (wpAny_ite ?_))
  split
  · first
      | exact wpAny_bind (wpAny_pure (wpAny_pure ⟨rfl, h0⟩))
      | exact wpAny_pure ⟨rfl, h0⟩
  · first
      | exact wpAny_bind (wpAny_rule (wpAny_bind (wpAny_standAt (wpAny_bind (wpAny_mono h (fun it' s' z => wpAny_pure ⟨rfl, z⟩) fun _ _ z => z)))))
      | (refine wpAny_bind (wpAny_rule ?_); show wpAny _ _ (standAt i1.pos >>= _) _ _ s; exact wpAny_bind (wpAny_standAt (wpAny_bind (wpAny_mono h (fun it' s' z => wpAny_pure ⟨rfl, z⟩) fun _ _ z => z))))
end
end DL

set_option Elab.async false
set_option linter.all false
set_option maxRecDepth 100000
namespace DL
open PySem PySem.Spec L2
/-- a comprehension's loop over J from the slots τ, those of us forgotten -/
def tLoop (g : TG) (tt : TT) (tm : St → Hp → (Hp → Prop) → Prop) (us : List Nat) (J : It) (τ : St) (H0 : Hp) (Fin : Hp → Prop) : Prop := ∃ W : Nat → Nat → Hp → Prop, (∃ m, W 0 m H0) ∧ ∀ i m H, W i m H →
  (J.stop i H ∧ Fin H) ∨ (J.go i H ∧ ∃ Nx : Hp → Prop, (∀ H', Nx H' → ∃ m', m' < m ∧ W (i + 1) m' H') ∧ ∀ x H', J.yld i H x H' → g x τ H' fun σ2 H2 => L2.wipe σ2 us = τ ∧ tt σ2 H2 fun b H3 => if b = true then tm σ2 H3 Nx else Nx H3)
structure PBody (X : Cx) (us : List Nat) (body : (Shared → Prop) → (Value → Shared → Prop) → Shared → Prop) (tm : St → Hp → (Hp → Prop) → Prop) : Prop where
  run : ∀ (pins : List (Addr × Obj)) (s : Shared) (σ : St) (H : Hp) (Nx : Hp → Prop) (P : Shared → Prop) (E : Value → Shared → Prop), Inv X pins σ H s → tm σ H Nx → (∀ s' H', Inv X pins (L2.wipe σ us) H' s' → Nx H' → P s') → body P E s
section
variable {X : Cx} {tg : Expr} {ifs : List Expr} {body : (Shared → Prop) → (Value → Shared → Prop) → Shared → Prop} {g : TG} {tt : TT} {tm : St → Hp → (Hp → Prop) → Prop} {us : List Nat}
theorem to_wipe {pins : List (Addr × Obj)} {σ : St} {H : Hp} {s : Shared} (I : Inv X pins σ H s) (us : List Nat) : Inv X pins (L2.wipe σ us) H s := I.weak (wipe_length _ _) fun j v e => (wipe_some e).1
theorem loop_core (hx : X.xe = fun _ _ => False) (hc : X.calm = true) (pg : PG X tg g) (pt : PTs X ifs tt) (pb : PBody X us body tm) {J : It} {fp : List Addr} {it : Addr} {tn : Nat → Heap → Prop} (T : Turn X.prog X.w X.K tg J fp it tn) {pins : List (Addr × Obj)} {τ : St} {Fin : Hp → Prop} {fin : Shared → Prop}
    (stat : ∀ H', (∀ b ∈ fp, H' b = none) → ∀ b ∈ fp, FpOk X pins H' b) {H0 : Hp} (h : tLoop g tt tm us J τ H0 Fin) (hfin : ∀ s' H', Inv X pins τ H' s' → Fin H' → fin s') :
    ∃ I : Nat → Shared → Prop, (∀ s, Inv X pins τ H0 s → tn 0 s.heap → (∀ b ∈ fp, H0 b = none) → ∃ m, I m s) ∧ ∀ n s E, I n s → TurnQ X (.ref it) tg ifs body fin (fun s' => ∃ m, m < n ∧ I m s') E s := by
  obtain ⟨W, ⟨m0, w0⟩, turn⟩ := h
  refine ⟨fun n s => ∃ i H, Inv X pins τ H s ∧ tn i s.heap ∧ (∀ b ∈ fp, H b = none) ∧ W i n H, fun s I st n0 => ⟨m0, 0, H0, I, st, n0, w0⟩, ?_⟩
  rintro n s E ⟨i, H, I, st, nf, w⟩
  rcases turn i n H w with ⟨stop, fq⟩ | ⟨go, Nx, hNx, step⟩
  · refine thnF (T.done X rfl rfl rfl hc i pins s τ H (fun _ _ => False) I (stat H nf) st stop) fun r s1 ⟨hr, I1⟩ => ?_
    subst hr
    exact hfin s1 H I1 fq
  · refine thnF (T.item X rfl rfl rfl hc i pins s τ H (fun _ _ => False) I (stat H nf) st go) fun r s1 ⟨u, hr, h1⟩ => ?_
    subst hr
    refine thnF h1 fun _ s2 ⟨x, H2, I2, rx, y2, st2, n2⟩ => ?_
    have I2' := I2.pinned (stat H2 n2) (T.obj _ _ st2)
    have rg := pg.run _ s2 τ H2 x u _ I2' rx (step x H2 y2)
    rw [hx] at rg
    refine thnF rg fun _ s3 ⟨σ3, H3, I3, hw, q3⟩ => ?_
    have rt := pt.run _ s3 σ3 H3 _ I3 q3
    rw [hx] at rt
    refine thnF rt fun b s4 ⟨H4, I4, q4⟩ => ?_
    have nxt : ∀ {s' : Shared} {H' : Hp}, Inv X (pins ++ pinsAt fp s2.heap) τ H' s' → Nx H' → ∃ m, m < n ∧ ∃ i H, Inv X pins τ H s' ∧ tn i s'.heap ∧ (∀ b ∈ fp, H b = none) ∧ W i m H := fun {s' H'} I' nx => by
      obtain ⟨m', hm, w'⟩ := hNx H' nx
      have pn : ∀ b ∈ fp, ∀ o, s2.heap.get? b = some o → s'.heap.get? b = some o ∧ H' b = none := fun b hb o e =>
        let z := I'.pin (b, o) (List.mem_append_right _ (List.mem_append_right _ (mem_pinsAt hb e)))
        ⟨z.1, z.2.1⟩
      refine ⟨m', hm, i + 1, H', I'.unpinned, T.keep _ _ _ st2 fun b hb o e => (pn b hb o e).1, fun b hb => ?_, w'⟩
      obtain ⟨o, e, _⟩ := T.obj _ _ st2 b hb
      exact (pn b hb o e).2
    have hτ : ∀ {s' : Shared} {H' : Hp}, Inv X (pins ++ pinsAt fp s2.heap) (L2.wipe σ3 us) H' s' → Inv X (pins ++ pinsAt fp s2.heap) τ H' s' := fun {s' H'} I' => by rw [hw] at I'; exact I'
    cases b with
    | false =>
      simp only [Bool.false_eq_true, if_false] at q4 ⊢
      exact nxt (hτ (to_wipe I4 us)) q4
    | true =>
      simp only [if_true] at q4 ⊢
      exact pb.run _ s4 σ3 H4 Nx _ E I4 q4 fun s' H' I' nx => nxt (hτ I') nx
/-! the bodies -/
def tmA (Y : Lay) (D : Addr) (tk tv : TE) : St → Hp → (Hp → Prop) → Prop := fun σ H Nx => tk σ H fun y H1 => tv σ H1 fun z H2 => ∃ o xs ps k b, y = .ref b ∧ H2 D = some (dnO Y D o xs) ∧ AtN Y H2 xs ps ∧ KeyIs Y H2 y k ∧ xs.length < sizeLine ∧ ∀ o', Nx (upd H2 D (dnO Y D o' (putN xs k b z)))
theorem n_dictSet {pins : List (Addr × Obj)} {σ : St} {H : Hp} {s : Shared} {A : Around} {E : Value → Shared → Prop} {a b : Addr} {xs : List NEnt} {ps : List (Dt × Dt)} {k : NestedKey} {v : V} {r : Value} {Q : Unit → Shared → Prop} (hu : A.units + 64 < cLine) (I : Inv X pins σ H s) {o : Obj} (e : H a = some (dnO X.lay a o xs)) (n : AtN X.lay H xs ps) (ki : (nestedKind X.prog X.w).is s.heap k b) (hl : xs.length < sizeLine) (rv : RelV v r)
    (h : ∀ o' s', Inv X pins σ (upd H a (dnO X.lay a o' (putN xs k b v))) s' → Q () s') : wpAny (model X.prog X.w) A (dictSet a (.ref b) r) Q E s := by
  obtain ⟨h1, h2, hdep, ys, h3, dd⟩ := dn_rd I ⟨o, .inl e⟩ n
  have hz : ys.length ≤ sizeLine := by rw [← Paired.length h3]; exact h2
  refine wpAny_dictSet_heap (hsz := hz) (show A.units + 8 < cLine by omega) ki dd fun h' dd' hs => ?_
  obtain ⟨q, es, ep, hq, w2, w3, w4, _, w5⟩ := dd'
  refine h q _ (d_write I (by rw [e]; exact True.intro) hs ⟨q, hq⟩ ⟨⟨h1, ?_, ?_, _, h3.put k b rv, es, ep, hq, w2, w3, w4, w5⟩, ⟨q, hq⟩, ?_⟩)
  · have := putN_len xs k b v; omega
  · intro x hx
    unfold putN at hx
    split at hx
    · rw [List.mem_map] at hx
      obtain ⟨y, hy, rfl⟩ := hx
      split
      · exact hdep y hy
      · exact hdep y hy
    · rw [List.mem_append, List.mem_singleton] at hx
      rcases hx with hx | rfl
      · exact hdep x hx
      · exact ki.2
  · rintro g1 g2 ⟨c1, c2, c3, ys', c4, es', ep', c5, c6⟩ hk
    exact ⟨c1, c2, c3, ys', c4, es', ep', hk _ c5, c6⟩
theorem pb_A (hx : X.xe = fun _ _ => False) (hu : X.A.units + 64 < cLine) {kx vx : Expr} {tk tv : TE} {D : Addr} (hk : PE X kx tk) (hv : PE X vx tv) : PBody X us (bodyA X kx vx D) (tmA X.lay D tk tv) := ⟨fun pins s σ H Nx P E I h k => by
  have rk := hk.run pins s σ H _ I h
  rw [hx] at rk
  refine thnF rk fun u s1 ⟨y, H1, I1, ry, h1⟩ => ?_
  have rv := hv.run pins s1 σ H1 _ I1 h1
  rw [hx] at rv
  refine thnF rv fun w s2 ⟨z, H2, I2, rz, o, xs, ps, kk, b, ey, hD, n, ki, hl, nx⟩ => ?_
  subst ey
  obtain ⟨b', hb, rfl, kis⟩ := ki.is I2 ry
  cases hb
  exact n_dictSet hu I2 hD n kis hl rz fun o' s3 I3 => k s3 _ (to_wipe I3 us) (nx o')⟩
def tmB (wi1 : TI) (g1 : TG) (tt1 : TT) (tm1 : St → Hp → (Hp → Prop) → Prop) (us1 : List Nat) : St → Hp → (Hp → Prop) → Prop := fun σ H Nx => wi1 σ H fun J H1 => tLoop g1 tt1 tm1 us1 J (L2.wipe σ us1) H1 Nx
theorem wipe_wipe (σ : St) {vs1 vs : List Nat} (h : ∀ i ∈ vs1, i ∈ vs) : L2.wipe (L2.wipe σ vs1) vs = L2.wipe σ vs := wipe_sub σ h
theorem pb_B (hx : X.xe = fun _ _ => False) (hc : X.calm = true) {kx vx t0 i0 t1 i1 : Expr} {ifs0 ifs1 : List Expr} {scope : Scope} {pos : Pos} {D : Addr} {wi1 : TI} {g1 : TG} {tt1 : TT} {tm1 : St → Hp → (Hp → Prop) → Prop} {us1 : List Nat} (hu : ∀ i ∈ us1, i ∈ us)
    (hi : PI X t1 i1 wi1) (pg : PG X t1 g1) (pt : PTs X ifs1 tt1) (pb : PBody X us1 (bodyA X kx vx D) tm1) : PBody X us (bodyB X (.DictComp kx vx [⟨t0, i0, ifs0, 0⟩, ⟨t1, i1, ifs1, 0⟩] scope pos) i1 (.ref D)) (tmB wi1 g1 tt1 tm1 us1) := ⟨fun pins s σ H Nx P E I h k => by
  have ri := hi.run pins s σ H _ I h
  rw [hx] at ri
  refine thnF ri fun xv s1 r1 => thnF r1 fun itv s2 r2 => ?_
  obtain ⟨it, fp, tn, J, H2, e, I2, T, st2, f2, q⟩ := r2
  subst e
  obtain ⟨Iv, iv0, ivt⟩ := loop_core (fin := P) hx hc pg pt pb T (pins := pins) (fun H' hn b hb => ⟨hn b hb, (f2 b hb).2⟩) q fun s' H' I' nx => k s' H' (by
    have := to_wipe I' us
    rw [wipe_wipe σ hu] at this
    exact this) nx
  obtain ⟨m, hm⟩ := iv0 s2 (to_wipe I2 us1) st2 fun b hb => (f2 b hb).1
  have lp : codeAny (model X.prog X.w) X.A (.compLoop (.DictComp kx vx [⟨t0, i0, ifs0, 0⟩, ⟨t1, i1, ifs1, 0⟩] scope pos) 1 (.ref it) (.ref D) X.env) (fun r s3 => match r with
      | .ok _ => P s3
      | .error _ => False) s2 := loopA turn2in Iv (fun n s h => ivt n s _ h) m hm
  exact start2 lp (T.self X.A 0 _ _ _ st2 lp)⟩
end
/-! the whole -/
section
variable {X : Cx} {kx vx tg iter : Expr} {ifs : List Expr} {rest : List Comprehension} {scope : Scope} {own : List (Str × Nat)} {pos pos' : Pos} {wi : TI} {g : TG} {tt : TT} {tm : Addr → St → Hp → (Hp → Prop) → Prop}
def tDcN (Y : Lay) (wi : TI) (g : TG) (tt : TT) (tm : Addr → St → Hp → (Hp → Prop) → Prop) (vs : List Nat) : TE := fun σ H Q => wi σ H fun J H1 => ∀ D o, H1 D = none → tLoop g tt (tm D) vs J (L2.wipe σ vs) (upd H1 D (dnO Y D o [])) (Q (.ref D))
/-- the loop of the first clause, by what is done with an item -/
def LoopIs (e tg : Expr) (ifs : List Expr) (body : Cx → Addr → (Shared → Prop) → (Value → Shared → Prop) → Shared → Prop) : Prop := ∀ (X : Cx) (R : Result → Shared → Prop) (s : Shared) (it : Value) (D : Addr) (I : Nat → Shared → Prop),
  (∀ n s, I n s → TurnQ X it tg ifs (body X D) (R (.ok .next)) (fun s' => ∃ m, m < n ∧ I m s') (notedBy (model X.prog X.w) X.A X.env fun x s' => R (.error x) s') s) → ∀ n, I n s → codeAny (model X.prog X.w) X.A (.compLoop e 0 it (.ref D) X.env) R s
variable {body : Cx → Addr → (Shared → Prop) → (Value → Shared → Prop) → Shared → Prop}
theorem dcn_core {pins : List (Addr × Obj)} {s : Shared} {σ : St} {H : Hp} {Q : VK} {use : Option (Value → Sem Unit)} {Qf : Value → Shared → Prop} (hc : X.calm = true) (hN : X.N.Nodup) (I : Inv X pins σ H s) (hi : PI X tg iter wi) (ok : BlkOk X.N X.env.scope scope own)
    (hg : ∀ (s : Shared) (H : Hp) (C : Addr) (cl : List (Str × Addr)) (fp : List Addr), PG (X.blk s H scope (compEnvC scope cl C X.env) fp) tg g) (ht : ∀ (s : Shared) (H : Hp) (C : Addr) (cl : List (Str × Addr)) (fp : List Addr), PTs (X.blk s H scope (compEnvC scope cl C X.env) fp) ifs tt)
    (hb : ∀ (s : Shared) (H : Hp) (C : Addr) (cl : List (Str × Addr)) (fp : List Addr) (D : Addr), PBody (X.blk s H scope (compEnvC scope cl C X.env) fp) (own.map (·.2)) (body (X.blk s H scope (compEnvC scope cl C X.env) fp) D) (tm D))
    (hl : LoopIs (.DictComp kx vx (⟨tg, iter, ifs, 0⟩ :: rest) scope pos) tg ifs body) (hs : ∀ x, foldedSetIterable iter X.env x = pure x) (h : tDcN X.lay wi g tt tm (own.map (·.2)) σ H Q)
    (hRR : ∀ D C s' m H', Inv X pins σ H' s' → Q (.ref D) H' → s'.heap.Ns C m → FpOk X pins H' C → compPost (model X.prog X.w) X.A X.xe use Qf (.ref D) C (.ok .next) s') :
    wpAny (model X.prog X.w) X.A (comprehension (.DictComp kx vx (⟨tg, iter, ifs, 0⟩ :: rest) scope pos) scope X.env pos' newDict false (eval iter X.env) use) Qf X.xe s := by
  have fr : ∀ y ∈ scope.names, y.2 = .free → ∃ c, X.env.cells.lookup y.1 = some c := fun y hy e => (ok.free y hy e).elim (fun k => I.ok.has _ (.inl k)) fun k => I.ok.has _ (.inr k)
  refine wpAny_comprehension_free (use := use) rfl hs (closure_ok fr) ok.kind (fun y hy e => by rw [ok.uniq y hy, e]) (thn (hi.run pins s σ H _ I h) fun xv s1 r1 => thn r1 fun itv s2 r2 => ?_)
  obtain ⟨it, fp, tn, J, H2, e, I2, T, st2, f2, q⟩ := r2
  subst e
  refine wpAny_newObj_type (newEnv_comp ?_)
  generalize hD : s2.heap.objs.size = D
  have hDn : H2 D = none := I2.hok.fresh (Nat.le_of_eq hD)
  generalize hs3 : ({ s2 with heap := s2.heap.push { cls := .type "dict", data := .dict #[] } } : Shared) = s3
  have h3 : s3.heap = s2.heap.push { cls := .type "dict", data := .dict #[] } := by rw [← hs3]
  obtain ⟨o, I3⟩ : ∃ o, Inv X pins σ (upd H2 D (dnO X.lay D o [])) s3 := by
    have I3 : Inv X pins σ (upd H2 D (.dK [])) s3 := by
      rw [← hs3]
      refine I2.laid (t' := s2.toks) (fun b o e => Heap.get?_push_of_some _ e) (Nat.le_of_eq hD) ?_
      rw [← hD]
      exact dk_empty s2.heap I2.big
    obtain ⟨o, I3⟩ := toN I3 upd_same
    rw [upd_idem] at I3
    exact ⟨o, I3⟩
  have q := q D o hDn
  generalize hH3 : upd H2 D (dnO X.lay D o []) = H3 at I3 q
  have f3 : ∀ b ∈ fp, FpOk X pins H3 b ∧ b < s3.heap.objs.size := fun b hb => by
    obtain ⟨ob, e, _⟩ := T.obj _ _ st2 b hb
    have lt := Heap.lt_size e
    refine ⟨⟨?_, (f2 b hb).2⟩, by rw [h3, Heap.size_push]; exact Nat.lt_succ_of_lt lt⟩
    rw [← hH3, upd_ne (by rw [← hD]; exact Nat.ne_of_lt lt)]
    exact (f2 b hb).1
  have st3 : tn 0 s3.heap := T.keep _ _ _ st2 fun b _ o e => by rw [h3]; exact Heap.get?_push_of_some _ e
  have I4 := block_start I3 ok hN f3
  generalize hcl : cellsFrom (s3.heap.objs.size + 1) scope.names (cloFrom X.env.cells scope.names []) = cl at I4
  have pg := hg s3 H3 s3.heap.objs.size cl fp
  have pt := ht s3 H3 s3.heap.objs.size cl fp
  have pb := hb s3 H3 s3.heap.objs.size cl fp D
  show codeAny _ _ (.compStart (.DictComp kx vx (⟨tg, iter, ifs, 0⟩ :: rest) scope pos) 0 (.ref it) (.ref D) (compEnvC scope cl s3.heap.objs.size X.env)) (compPost (model X.prog X.w) X.A X.xe use Qf (.ref D) s3.heap.objs.size) _
  generalize hce : compEnvC scope cl s3.heap.objs.size X.env = ce at I4 pg pt pb ⊢
  have cL : ce.locals = s3.heap.objs.size := by subst hce; rfl
  generalize hs4 : ({ s3 with heap := pushCells (s3.heap.push { cls := .type "dict", data := .dict #[] }) scope.names } : Shared) = s4 at I4 ⊢
  have st4 : tn 0 s4.heap := T.keep _ _ _ st3 fun b _ o e => by rw [← hs4]; exact pushCells_keeps _ _ _ _ (Heap.get?_push_of_some _ e)
  have ok4 := I4.ok
  have stat : ∀ H', (∀ b ∈ fp, H' b = none) → ∀ b ∈ fp, FpOk (X.blk s3 H3 scope ce fp) [] H' b := fun H' hn b hb =>
    ⟨hn b hb, (ok4.exf b hb).1, ok4.exfs b hb, .inl hb, fun x c e => (ok4.exf b hb).2 x c e, fun p hp => absurd (show p ∈ ([] : List (Addr × Obj)) ++ [] from hp) (by simp)⟩
  obtain ⟨Iv, iv0, ivt⟩ := loop_core (fin := compPost (model X.prog X.w) X.A X.xe use Qf (.ref D) s3.heap.objs.size (.ok .next)) (X := X.blk s3 H3 scope ce fp) rfl hc pg pt pb T (pins := []) stat q fun s6 H6 I6 qq => by
    have I7 : Inv X pins σ H6 s6 := I3.call' (ch := fp) I6.os I6.base I6.hok I6.bare fun b hb => let z := (f3 b hb).1.2; ⟨z.2.2.1, z.1, z.2.2.2.1, z.2.2.2.2⟩
    have nC : H6 s3.heap.objs.size = none := by rw [← cL]; exact I6.free
    obtain ⟨m, hn, _⟩ := I6.loc
    have hn : s6.heap.Ns ce.locals m := hn
    rw [cL] at hn
    exact hRR D s3.heap.objs.size s6 m H6 I7 qq hn (I3.fpOk (Nat.le_refl _) nC)
  obtain ⟨m, hm⟩ := iv0 s4 I4 st4 fun b hb => (f3 b hb).1.1
  have lp := hl (X.blk s3 H3 scope ce fp) (compPost (model X.prog X.w) X.A X.xe use Qf (.ref D) s3.heap.objs.size) s4 (.ref it) D Iv (fun n s h => ivt n s _ h) m hm
  exact codeAny_compStart_dict lp (T.self X.A 0 _ _ _ st4 lp)
/-- as a value -/
theorem pe_dcn (hc : X.calm = true) (hN : X.N.Nodup) (hi : PI X tg iter wi) (ok : BlkOk X.N X.env.scope scope own)
    (hg : ∀ (s : Shared) (H : Hp) (C : Addr) (cl : List (Str × Addr)) (fp : List Addr), PG (X.blk s H scope (compEnvC scope cl C X.env) fp) tg g) (ht : ∀ (s : Shared) (H : Hp) (C : Addr) (cl : List (Str × Addr)) (fp : List Addr), PTs (X.blk s H scope (compEnvC scope cl C X.env) fp) ifs tt)
    (hb : ∀ (s : Shared) (H : Hp) (C : Addr) (cl : List (Str × Addr)) (fp : List Addr) (D : Addr), PBody (X.blk s H scope (compEnvC scope cl C X.env) fp) (own.map (·.2)) (body (X.blk s H scope (compEnvC scope cl C X.env) fp) D) (tm D))
    (hl : LoopIs (.DictComp kx vx (⟨tg, iter, ifs, 0⟩ :: rest) scope pos) tg ifs body) (hs : ∀ x, foldedSetIterable iter X.env x = pure x) : PE X (.DictComp kx vx (⟨tg, iter, ifs, 0⟩ :: rest) scope pos) (tDcN X.lay wi g tt tm (own.map (·.2))) := by
  refine ⟨fun pins s σ H Q I h => ?_⟩
  rw [arm_eval_DictComp]
  refine dcn_core hc hN I hi ok hg ht hb hl hs h fun D C s' m H' I' q hn f => ⟨m, hn, fun h'' sb => ?_⟩
  obtain ⟨f0, f1, f2, f3, f4, f5⟩ := f
  exact ⟨.ref D, H', I'.turned (t' := s'.toks) (fun b o hb e => (sb.2 b hb).trans e) f0 f1 f3 f4 f5, rfl, q⟩
/-- name = {..} on one line -/
theorem ps_dcn {i : Nat} {y : Str} {py spos : Pos} (hc : X.calm = true) (hN : X.N.Nodup) (hy : X.N[i]? = some y) (hyl : X.env.scope.names.lookup y = some .local) (hsw : swapsWith (.DictComp kx vx (⟨tg, iter, ifs, 0⟩ :: rest) scope pos) (some (.Name y py)) spos.line X.env = pure true) (hi : PI X tg iter wi) (ok : BlkOk X.N X.env.scope scope own)
    (hg : ∀ (s : Shared) (H : Hp) (C : Addr) (cl : List (Str × Addr)) (fp : List Addr), PG (X.blk s H scope (compEnvC scope cl C X.env) fp) tg g) (ht : ∀ (s : Shared) (H : Hp) (C : Addr) (cl : List (Str × Addr)) (fp : List Addr), PTs (X.blk s H scope (compEnvC scope cl C X.env) fp) ifs tt)
    (hb : ∀ (s : Shared) (H : Hp) (C : Addr) (cl : List (Str × Addr)) (fp : List Addr) (D : Addr), PBody (X.blk s H scope (compEnvC scope cl C X.env) fp) (own.map (·.2)) (body (X.blk s H scope (compEnvC scope cl C X.env) fp) D) (tm D))
    (hl : LoopIs (.DictComp kx vx (⟨tg, iter, ifs, 0⟩ :: rest) scope pos) tg ifs body) (hs : ∀ x, foldedSetIterable iter X.env x = pure x) : PS X (.Assign [.Name y py] (.DictComp kx vx (⟨tg, iter, ifs, 0⟩ :: rest) scope pos) spos) (tAsg (tDcN X.lay wi g tt tm (own.map (·.2))) (gName i)) := by
  refine ⟨fun pins s σ H D I h => ?_⟩
  rw [exec_Assign_Name_used _ _ _ _ hsw]
  refine wpAny_bind (wpAny_standAt (wpAny_bind ?_))
  show wpAny _ X.A (do let _ ← comprehension (.DictComp kx vx (⟨tg, iter, ifs, 0⟩ :: rest) scope pos) scope X.env (firstIterPos (⟨tg, iter, ifs, 0⟩ :: rest) pos) newDict false (eval iter X.env) (some (assign (.Name y py) X.env))) _ _ s
  have h : tDcN X.lay wi g tt tm (own.map (·.2)) σ H (fun x H1 => gName i x σ H1 D.nx) := h
  refine wpAny_bind (thn (dcn_core (Qf := fun _ s' => SP X pins D .next s') hc hN I hi ok hg ht hb hl hs h fun L C s' m H' I' q hn f => ?_) fun _ s' hq => wpAny_pure (wpAny_pure hq))
  show wpAny _ _ (assign (.Name y py) X.env (.ref L)) _ _ _
  refine wpAny_assign_Name (store_ok2 (v := V.ref L) I' hN hy (.inl hyl) rfl (fun s2 I2 ⟨a, sb, ha⟩ => ?_) (.inr hyl))
  obtain ⟨f0, f1, f2, f3, f4, f5⟩ := f
  have hC : C ≠ a := ha.elim (fun z => by rw [z]; exact f1) fun z e => f4 y a z e.symm
  exact ⟨m, hn.sameBut sb hC, fun h3 sb3 => ⟨_, H', I2.turned (t' := s2.toks) (fun b o hb e => (sb3.2 b hb).trans e) f0 f1 f3 f4 f5, q⟩⟩
end
/-! the two forms -/
theorem loopIs1 {kx vx tg iter : Expr} {ifs : List Expr} {scope : Scope} {pos : Pos} : LoopIs (.DictComp kx vx [⟨tg, iter, ifs, 0⟩] scope pos) tg ifs (fun X D => bodyA X kx vx D) := fun X R s it D I turn n h => loopA (compTurn_dict ..) I turn n h
theorem loopIs2 {kx vx t0 i0 t1 i1 : Expr} {ifs0 ifs1 : List Expr} {scope : Scope} {pos : Pos} (hs : ∀ env x, foldedSetIterable i1 env x = pure x) : LoopIs (.DictComp kx vx [⟨t0, i0, ifs0, 0⟩, ⟨t1, i1, ifs1, 0⟩] scope pos) t0 ifs0 (fun X D => bodyB X (.DictComp kx vx [⟨t0, i0, ifs0, 0⟩, ⟨t1, i1, ifs1, 0⟩] scope pos) i1 (.ref D)) :=
  fun X R s it D I turn n h => loopB turn2out (hs X.env) I turn n h
end DL

set_option Elab.async false
set_option linter.all false
set_option maxRecDepth 100000
namespace DL
open PySem L2
/-! ### {k: v for target in iter if test ..}, as data -/
abbrev FMk := List (Dt × Dt) → En → Option (List (Dt × Dt) × En)
def dcL (g : FG) (t : FT) (m : FMk) (us : List Nat) : List Dt → FMk
  | [], ps, e => some (ps, e)
  | d :: ds, ps, e => (g d e).bind fun e1 => (t e1).bind fun p => if p.1 = true then (m ps p.2).bind fun q => if noOwn q.2 us = true then dcL g t m us ds q.1 (wipeE q.2 us) else none
      else if noOwn p.2 us = true then dcL g t m us ds ps (wipeE p.2 us) else none
def emN (fk fv : FD) : FMk := fun ps e => (fk e).bind fun p => (fv p.2).bind fun q => if isTupD p.1 = true ∧ okKey p.1 = true ∧ ps.length < sizeLine then some (putNd ps p.1 q.1, q.2) else none
def inN (f1 : FI) (g1 : FG) (t1 : FT) (m : FMk) (us1 : List Nat) : FMk := fun ps e => (f1 e).bind fun p => if noOwn p.2 us1 = true then dcL g1 t1 m us1 p.1 ps (wipeE p.2 us1) else none
def dcD (f : FI) (g : FG) (t : FT) (m : FMk) (us : List Nat) : FD := fun e => (f e).bind fun p => if noOwn p.2 us = true then (dcL g t m us p.1 [] (wipeE p.2 us)).bind fun r => some (.dict r.1, backE p.2 r.2 us) else none
abbrev dOw (F : Fr) (D : Addr) (τ : St) (e : En) : Addr → Prop := Ow (F.plus D (.lst [])) τ e
/-- m does what tm asks -/
def MOk (Y : Lay) (us : List Nat) (m : FMk) (tm : Addr → St → Hp → (Hp → Prop) → Prop) : Prop := ∀ (F : Fr) (D : Addr) (o : Obj) (xs : List NEnt) (ps : List (Dt × Dt)) (σ : St) (H : Hp) (e : En) (ps' : List (Dt × Dt)) (e' : En) (Nx : Hp → Prop),
  ¬ F.O0 D → F.H0 D = none → D ∉ F.ms → Rel Y (F.plus D (dnO Y D o xs)) σ H e → AtN Y (hide (dOw F D σ e) H) xs ps → m ps e = some (ps', e') → noOwn e' us = true →
  (∀ o' xs' H', Rel Y (F.plus D (dnO Y D o' xs')) (L2.wipe σ us) H' (wipeE e' us) → Stp (dOw F D σ e) H (dOw F D (L2.wipe σ us) (wipeE e' us)) H' → AtN Y (hide (dOw F D (L2.wipe σ us) (wipeE e' us)) H') xs' ps' → KdX us e (wipeE e' us) → (wipeE e' us).length = e.length → Nx H') →
  tm D σ H Nx
theorem KdX.sub {vs1 vs : List Nat} {a b : En} (h : KdX vs1 a b) (hv : ∀ i ∈ vs1, i ∈ vs) : KdX vs a b := fun i hi => h i fun z => hi (hv i z)
section
variable {X : Cx} {Y : Lay} {us us1 ss ss1 : List Nat} {g g1 : FG} {t t1 : FT} {m m1 : FMk} {tm tm1 : Addr → St → Hp → (Hp → Prop) → Prop}
theorem dcl_use (hs : ∀ i ∈ ss, i ∈ us) (mo : MOk Y us m tm) {F : Fr} {D : Addr} (nO : ¬ F.O0 D) (n0 : F.H0 D = none) (hm : D ∉ F.ms) {J : It} {O1 : Addr → Prop} {H1 H : Hp} {ds : List Dt} (yl : Yields Y J O1 H1 ds) {σ : St} {o : Obj} {xs : List NEnt} {ps ps' : List (Dt × Dt)} {e ef : En}
    (R : Rel Y (F.plus D (dnO Y D o xs)) (L2.wipe σ us) H e) (noe : noOwn e us = true) (st : Stp O1 H1 (dOw F D (L2.wipe σ us) e) H) (ka : AtN Y (hide (dOw F D (L2.wipe σ us) e) H) xs ps) (hr : dcL g t m us ds ps e = some (ps', ef)) {Fin : Hp → Prop}
    (fin : ∀ o' xs' H', Rel Y (F.plus D (dnO Y D o' xs')) (L2.wipe σ us) H' ef → Stp (dOw F D (L2.wipe σ us) e) H (dOw F D (L2.wipe σ us) ef) H' → AtN Y (hide (dOw F D (L2.wipe σ us) ef) H') xs' ps' → KdX us e ef → ef.length = e.length → noOwn ef us = true → Fin H') :
    tLoop (tG Y ss g) (tT Y t) (tm D) us J (L2.wipe σ us) H Fin := by
  refine ⟨fun i mm Hc => mm = ds.length - i ∧ i ≤ ds.length ∧ ∃ oi xi pi ei, Rel Y (F.plus D (dnO Y D oi xi)) (L2.wipe σ us) Hc ei ∧ Stp (dOw F D (L2.wipe σ us) e) H (dOw F D (L2.wipe σ us) ei) Hc ∧ AtN Y (hide (dOw F D (L2.wipe σ us) ei) Hc) xi pi ∧ KdX us e ei ∧ ei.length = e.length ∧ noOwn ei us = true ∧ dcL g t m us (ds.drop i) pi ei = some (ps', ef),
    ⟨_, rfl, Nat.zero_le _, o, xs, ps, e, R, Stp.refl, ka, fun i _ => .inl rfl, rfl, noe, by simpa using hr⟩, ?_⟩
  rintro i mm Hc ⟨rfl, hi, oi, xi, pi, ei, R2, s2, ki, kx, el, noi, hr⟩
  have yi := yl i _ _ (st.trans s2) (fun a h => R2.ow_there h)
  by_cases hlt : i < ds.length
  · have e0 : ds.drop i = ds[i] :: ds.drop (i + 1) := List.drop_eq_getElem_cons hlt
    rw [e0] at hr
    obtain ⟨e2, g1, hr⟩ := Option.bind_eq_some_iff.mp hr
    obtain ⟨⟨b, e3⟩, g2, hr⟩ := Option.bind_eq_some_iff.mp hr
    obtain ⟨hgo, hy⟩ := yi.1 ds[i] (by simp [hlt])
    refine .inr ⟨hgo, fun H' => ∃ oi xi pi ei, Rel Y (F.plus D (dnO Y D oi xi)) (L2.wipe σ us) H' ei ∧ Stp (dOw F D (L2.wipe σ us) e) H (dOw F D (L2.wipe σ us) ei) H' ∧ AtN Y (hide (dOw F D (L2.wipe σ us) ei) H') xi pi ∧ KdX us e ei ∧ ei.length = e.length ∧ noOwn ei us = true ∧ dcL g t m us (ds.drop (i + 1)) pi ei = some (ps', ef),
      fun H' z => ⟨_, by omega, rfl, hlt, z⟩, fun x H3 y => ?_⟩
    obtain ⟨sm, ax⟩ := hy x H3 y
    have R3 := R2.same sm
    refine ⟨F.plus D (dnO Y D oi xi), ei, ds[i], e2, fun j hj => ms_no R3 noi j (hs j hj), R3, ax, g1, fun σ4 R4 s4 o4 => ?_⟩
    have hl4 : σ4.length = (L2.wipe σ us).length := by
      have a1 := R4.len
      have a2 := R3.len
      have a3 := o4.1
      omega
    have ww : L2.wipe σ4 us = L2.wipe σ us := (o4.wipe hs hl4).trans (wipe_idem σ us)
    refine ⟨ww, F.plus D (dnO Y D oi xi), e2, b, e3, R4, g2, fun H5 R5 kd5 s5 => ?_⟩
    have s6 := ((s2.trans (Stp.of sm)).trans s4).trans s5
    have kx5 : KdX us e e3 := (kx.trans (o4.kdx hs)).trans kd5.x
    have el5 : e3.length = e.length := by
      have a1 := R5.len
      have a2 := R3.len
      omega
    have ka5 := ki.mono (Stp.same (((Stp.of sm).trans s4).trans s5))
    cases b with
    | false =>
      simp only [Bool.false_eq_true, if_false] at hr ⊢
      split at hr
      · rename_i no5
        have RW5 := R5.wipe no5
        have ow5 : dOw F D (L2.wipe σ us) (wipeE e3 us) = dOw F D σ4 e3 := by rw [← ww]; exact ow_wipe no5
        rw [ww] at RW5
        exact ⟨oi, xi, pi, wipeE e3 us, RW5, by rw [ow5]; exact s6, by rw [ow5]; exact ka5, kx5.wipe, (wipeE_len _ _).trans el5, noOwn_wipe _ _, hr⟩
      · cases hr
    | true =>
      simp only [if_true] at hr ⊢
      obtain ⟨⟨p6, e6⟩, g3, hr⟩ := Option.bind_eq_some_iff.mp hr
      split at hr
      · rename_i no6
        refine mo F D oi xi pi σ4 H5 e3 p6 e6 _ nO n0 hm R5 ka5 g3 no6 fun o' xs' H' R' s' k' kx' l' => ?_
        rw [ww] at R' s' k'
        exact ⟨o', xs', p6, wipeE e6 us, R', s6.trans s', k', kx5.trans kx', l'.trans el5, noOwn_wipe _ _, hr⟩
      · cases hr
  · have e0 : ds.drop i = [] := List.drop_eq_nil_of_le (by omega)
    rw [e0] at hr
    cases hr
    exact .inl ⟨yi.2 (by omega), fin _ _ _ R2 s2 ki kx el noi⟩
theorem em_ok {fk fv : FD} : MOk Y us (emN fk fv) (fun D => tmA Y D (tD Y fk) (tD Y fv)) := by
  intro F D o xs ps σ H e ps' e' Nx nO n0 hm R ka hr no k
  obtain ⟨⟨dk, e1⟩, h1, hr⟩ := Option.bind_eq_some_iff.mp hr
  obtain ⟨⟨dv, e2⟩, h2, hr⟩ := Option.bind_eq_some_iff.mp hr
  split at hr
  · rename_i hz
    cases hr
    refine ⟨_, e, dk, e1, R, h1, fun y H1 R1 kd1 s1 a1 => ⟨_, e1, dv, _, R1, h2, fun z H2 R2 kd2 s2 a2 => ?_⟩⟩
    have hD : H2 D = some (dnO Y D o xs) := R2.keep D _ (show upd F.H0 D (dnO Y D o xs) D = _ from upd_same) hm
    have a1' := a1.mono s2.same
    obtain ⟨kk, k1, bk, kd, rfl, k3, k4, k5⟩ := (See.at a1').key hz.1 hz.2.1
    have k2 := ka.mono (s1.trans s2).same
    refine ⟨o, xs, ps, kk, bk, rfl, hD, k2.mono (hide_le _ _), ⟨bk, kd, rfl, k3, k4, k5⟩, by rw [k2.len]; exact hz.2.2, fun o' => ?_⟩
    obtain ⟨R3, s3⟩ := R2.replus (o' := dnO Y D o' (putN xs kk bk z)) nO n0
    have RW := R3.wipe no
    have no : noOwn e2 us = true := no
    have ow : dOw F D (L2.wipe σ us) (wipeE e2 us) = dOw F D σ e2 := ow_wipe no
    refine k o' _ _ RW (by rw [ow]; exact (s1.trans s2).trans s3) ?_ (kd1.x.trans kd2.x).wipe ?_
    · rw [ow]
      exact (k2.put a1' k1 a2).mono s3.same
    · rw [wipeE_len]
      have b1 := R.len
      have b2 : σ.length = e2.length := R2.len
      show e2.length = e.length
      omega
  · cases hr
theorem in_ok {f1 : FI} (hs1 : ∀ i ∈ ss1, i ∈ us1) (hv : ∀ i ∈ us1, i ∈ us) (mo : MOk Y us1 m1 tm1) : MOk Y us (inN f1 g1 t1 m1 us1) (fun D => tmB (tI Y f1) (tG Y ss1 g1) (tT Y t1) (tm1 D) us1) := by
  intro F D o xs ps σ H e ps' e' Nx nO n0 hm R ka hr no k
  obtain ⟨⟨ds, e1⟩, h1, hr⟩ := Option.bind_eq_some_iff.mp hr
  split at hr
  · rename_i no1
    refine ⟨_, e, ds, e1, R, h1, fun J H1 R1 kd1 s1 yl hz => ?_⟩
    have ow1 : dOw F D (L2.wipe σ us1) (wipeE e1 us1) = dOw F D σ e1 := ow_wipe no1
    refine dcl_use hs1 mo nO n0 hm yl (R1.wipe no1) (noOwn_wipe _ _) (by rw [ow1]; exact Stp.refl) (by rw [ow1]; exact ka.mono s1.same) hr fun o' xs' H' R' s' k' kx' l' no' => ?_
    have RW := R'.wipe no
    have ow : dOw F D (L2.wipe σ us) (wipeE e' us) = dOw F D (L2.wipe σ us1) e' := by rw [← wipe_wipe σ hv]; exact ow_wipe no
    rw [wipe_wipe σ hv] at RW
    refine k o' xs' H' RW ?_ (by rw [ow]; exact k') ((kd1.x.trans ((KdX.of_wipe e1).sub hv)).trans (kx'.sub hv)).wipe ?_
    · rw [ow]
      rw [ow1] at s'
      exact s1.trans s'
    · rw [wipeE_len, l', wipeE_len]
      have b1 := R.len
      have b2 := R1.len
      omega
  · cases hr
theorem dc_use {f : FI} (hs : ∀ i ∈ ss, i ∈ us) (mo : MOk Y us m tm) : ∀ σ H Q, tF Y (dcD f g t m us) σ H Q → tDcN Y (tI Y f) (tG Y ss g) (tT Y t) tm us σ H Q := fun σ H Q q => by
  obtain ⟨F, env, d, env', R0, hf, k⟩ := q
  obtain ⟨⟨ds, e1⟩, h1, hf⟩ := Option.bind_eq_some_iff.mp hf
  split at hf
  · rename_i no1
    obtain ⟨⟨res, ef⟩, h2, hf⟩ := Option.bind_eq_some_iff.mp hf
    cases hf
    refine ⟨F, env, ds, e1, R0, h1, fun J H1 R1 kd1 s1 yl hz D o hD => ?_⟩
    have n0 := R1.fresh0 hD
    have nO : ¬ F.O0 D := fun z => R1.fresh hD (.inl z)
    have hD0 : H D = none := fresh_back R1 kd1 s1 hD
    have hm : D ∉ F.ms := fun z => by
      obtain ⟨u, q⟩ := R1.ms_there z
      rw [hD] at q; cases q
    have RP : Rel Y (F.plus D (dnO Y D o [])) (L2.wipe σ us) (upd H1 D (dnO Y D o [])) (wipeE e1 us) := (R1.wipe no1).plus hD (same_upd hD) upd_same
    have st0 : Stp (Ow F σ e1) H1 (dOw F D (L2.wipe σ us) (wipeE e1 us)) (upd H1 D (dnO Y D o [])) := fun a ob n e => by
      refine ⟨fun z => ?_, same_upd hD a ob e⟩
      have z : Ow (F.plus D (.lst [])) (L2.wipe σ us) (wipeE e1 us) a := z
      rw [ow_plus, ow_wipe no1] at z
      exact z.elim (fun w => by rw [w, hD] at e; cases e) n
    refine dcl_use hs mo nO n0 hm yl RP (noOwn_wipe _ _) st0 .nil h2 fun o' xs' H' R' s' k' kx' l' no' => ?_
    have el : ef.length = e1.length := l'.trans (wipeE_len _ _)
    obtain ⟨RB, owB⟩ := R'.back (O1 := Ow F σ e1) (H1 := H1) el.symm no1 no' (fun j d' hj hd => R1.dat j d' hd) (st0.trans s')
    have kdB : Kd env (backE e1 ef us) := kd1.trans fun j => by
      by_cases hj : j ∈ us
      · exact .inl (backE_in el.symm hj)
      · rw [backE_out hj]
        exact ((KdX.of_wipe e1).trans kx') j hj
    refine k D (dnO Y D o' xs') H' hD0 RB kdB (by rw [owB]; exact s1.trans (st0.trans s')) ?_
    rw [owB]
    exact .dicN (R'.keep D _ (show upd F.H0 D (dnO Y D o' xs') D = _ from upd_same) hm) k'
  · cases hf
/-! ### the rules -/
variable {kx vx tg iter tg1 iter1 : Expr} {ifs ifs1 : List Expr} {scope : Scope} {own : List (Str × Nat)} {pos : Pos} {f f1 : FI} {fk fv : FD}
abbrev Blks (X : Cx) (scope : Scope) (P : Cx → Prop) : Prop := ∀ (s : Shared) (H : Hp) (C : Addr) (cl : List (Str × Addr)) (fp : List Addr), P (X.blk s H scope (compEnvC scope cl C X.env) fp)
theorem f_dcn (hu : X.A.units + 64 < cLine) (hc : X.calm = true) (hN : X.N.Nodup) (hi : PId X tg iter f) (ok : BlkOk X.N X.env.scope scope own) (hg : Blks X scope fun X => PGd X ss tg g) (ht : Blks X scope fun X => PTd X ifs t) (hk : Blks X scope fun X => PD X kx fk) (hv : Blks X scope fun X => PD X vx fv)
    (hss : ∀ i ∈ ss, i ∈ own.map (·.2) := by decide) (hs : ∀ x, foldedSetIterable iter X.env x = pure x := by intro _; rfl) : PF X (.DictComp kx vx [⟨tg, iter, ifs, 0⟩] scope pos) (dcD f g t (emN fk fv) (own.map (·.2))) :=
  (pe_dcn (tm := fun D => tmA X.lay D (tD X.lay fk) (tD X.lay fv)) hc hN hi ok hg ht (fun s H C cl fp D => pb_A (X := X.blk s H scope (compEnvC scope cl C X.env) fp) rfl hu (hk s H C cl fp) (hv s H C cl fp)) loopIs1 hs).imp (dc_use hss em_ok)
theorem f_dcn2 (us1 : List Nat) (hu : X.A.units + 64 < cLine) (hc : X.calm = true) (hN : X.N.Nodup) (hi : PId X tg iter f) (ok : BlkOk X.N X.env.scope scope own) (hg : Blks X scope fun X => PGd X ss tg g) (ht : Blks X scope fun X => PTd X ifs t) (hi1 : Blks X scope fun X => PId X tg1 iter1 f1) (hg1 : Blks X scope fun X => PGd X ss1 tg1 g1) (ht1 : Blks X scope fun X => PTd X ifs1 t1)
    (hk : Blks X scope fun X => PD X kx fk) (hv : Blks X scope fun X => PD X vx fv) (hss : ∀ i ∈ ss, i ∈ own.map (·.2) := by decide) (hss1 : ∀ i ∈ ss1, i ∈ us1 := by decide) (hvs : ∀ i ∈ us1, i ∈ own.map (·.2) := by decide) (hs : ∀ x, foldedSetIterable iter X.env x = pure x := by intro _; rfl) (hs1 : ∀ env x, foldedSetIterable iter1 env x = pure x := by intro _ _; rfl) :
    PF X (.DictComp kx vx [⟨tg, iter, ifs, 0⟩, ⟨tg1, iter1, ifs1, 0⟩] scope pos) (dcD f g t (inN f1 g1 t1 (emN fk fv) us1) (own.map (·.2))) :=
  (pe_dcn (tm := fun D => tmB (tI X.lay f1) (tG X.lay ss1 g1) (tT X.lay t1) (tmA X.lay D (tD X.lay fk) (tD X.lay fv)) us1) hc hN hi ok hg ht
    (fun s H C cl fp D => pb_B (X := X.blk s H scope (compEnvC scope cl C X.env) fp) rfl hc hvs (hi1 s H C cl fp) (hg1 s H C cl fp) (ht1 s H C cl fp) (pb_A (X := X.blk s H scope (compEnvC scope cl C X.env) fp) rfl hu (hk s H C cl fp) (hv s H C cl fp))) (loopIs2 hs1) hs).imp (dc_use hss (in_ok hss1 hvs em_ok))
/-! name = {..} on one line: the name's own, or data -/
variable {m0 : Nat} {st : Stmt} {tX : TE} {fx : FD}
theorem own_of (i : Nat) (h : PS X st (tAsg tX (gName i))) (hx : ∀ σ H Q, tF X.lay fx σ H Q → tX σ H Q) (hm : m0 ≤ i) : PZ X m0 st (owS i fx) := h.imp fun D σ H q => own_fin hm D σ H q |> fun z => hx σ H _ z
theorem dat_of (i : Nat) (h : PS X st (tAsg tX (gName i))) (hx : ∀ σ H Q, tF X.lay fx σ H Q → tX σ H Q) (hm : m0 ≤ i) : PZ X m0 st (asS fx (gN i)) := h.imp fun D σ H q => by
  obtain ⟨F, env, out, hm', R0, hf, k⟩ := q
  obtain ⟨⟨d, e1⟩, h1, hf⟩ := Option.bind_eq_some_iff.mp hf
  cases hf
  refine hx σ H _ ⟨F, env, d, e1, R0, h1, fun p o H1 hp R1 kd s a => ?_⟩
  have R2 := R1.unplus (R0.fresh0 hp) (fun z => R0.fresh hp (.inl z))
  have no : ¬ Ow F σ e1 p := by rw [← kd.ow]; exact R0.fresh hp
  have sm : Same (hide (Ow (F.plus p o) σ e1) H1) (hide (Ow F σ e1) H1) := hide_sub fun a z => ow_plus.mpr (.inr z)
  obtain ⟨R3, s3⟩ := R2.set (by omega : F.ms.length ≤ i) (a.at sm fun o z => hide_some.mpr ⟨no, z⟩)
  exact k _ H1 R3 (Stp.trans (fun b u n e => ⟨fun z => (s b u n e).1 (ow_plus.mpr (.inr z)), (s b u n e).2⟩) s3)
theorem sw_dc {gs : List Comprehension} {py : Pos} {y : Str} {l : Nat} {env : Env} (hk : env.scope.kind = .function) (hy : env.scope.names.lookup y = some .local) (hl : (py.line == pos.line) = true) (ha : (scope.names.any fun (n, k) => n == y && (k == .local || k == .cell)) = false) :
    swapsWith (.DictComp kx vx gs scope pos) (some (.Name y py)) l env = pure true := by
  have ky : env.kindOf y = some .local := hy
  have hb : env.blockKind = .function := by unfold Env.blockKind; rw [hk]; rfl
  unfold swapsWith
  simp only [hb, ky, ha, Expr.pos, hl]
  rfl
variable {y : Str} {py spos : Pos}
theorem z_dcn (i : Nat) (hu : X.A.units + 64 < cLine) (hc : X.calm = true) (hN : X.N.Nodup) (hi : PId X tg iter f) (ok : BlkOk X.N X.env.scope scope own) (hg : Blks X scope fun X => PGd X ss tg g) (ht : Blks X scope fun X => PTd X ifs t) (hk : Blks X scope fun X => PD X kx fk) (hv : Blks X scope fun X => PD X vx fv)
    (hm : m0 ≤ i := by decide) (hy : X.N[i]? = some y := by rfl) (hyl : X.env.scope.names.lookup y = some .local := by rfl) (hsw : swapsWith (.DictComp kx vx [⟨tg, iter, ifs, 0⟩] scope pos) (some (.Name y py)) spos.line X.env = pure true := by exact sw_dc rfl rfl rfl (by decide +kernel))
    (hss : ∀ i ∈ ss, i ∈ own.map (·.2) := by decide) (hs : ∀ x, foldedSetIterable iter X.env x = pure x := by intro _; rfl) : PZ X m0 (.Assign [.Name y py] (.DictComp kx vx [⟨tg, iter, ifs, 0⟩] scope pos) spos) (owS i (dcD f g t (emN fk fv) (own.map (·.2)))) :=
  own_of i (ps_dcn (tm := fun D => tmA X.lay D (tD X.lay fk) (tD X.lay fv)) hc hN hy hyl hsw hi ok hg ht (fun s H C cl fp D => pb_A (X := X.blk s H scope (compEnvC scope cl C X.env) fp) rfl hu (hk s H C cl fp) (hv s H C cl fp)) loopIs1 hs) (dc_use hss em_ok) hm
theorem z_dcnD (i : Nat) (hu : X.A.units + 64 < cLine) (hc : X.calm = true) (hN : X.N.Nodup) (hi : PId X tg iter f) (ok : BlkOk X.N X.env.scope scope own) (hg : Blks X scope fun X => PGd X ss tg g) (ht : Blks X scope fun X => PTd X ifs t) (hk : Blks X scope fun X => PD X kx fk) (hv : Blks X scope fun X => PD X vx fv)
    (hm : m0 ≤ i := by decide) (hy : X.N[i]? = some y := by rfl) (hyl : X.env.scope.names.lookup y = some .local := by rfl) (hsw : swapsWith (.DictComp kx vx [⟨tg, iter, ifs, 0⟩] scope pos) (some (.Name y py)) spos.line X.env = pure true := by exact sw_dc rfl rfl rfl (by decide +kernel))
    (hss : ∀ i ∈ ss, i ∈ own.map (·.2) := by decide) (hs : ∀ x, foldedSetIterable iter X.env x = pure x := by intro _; rfl) : PZ X m0 (.Assign [.Name y py] (.DictComp kx vx [⟨tg, iter, ifs, 0⟩] scope pos) spos) (asS (dcD f g t (emN fk fv) (own.map (·.2))) (gN i)) :=
  dat_of i (ps_dcn (tm := fun D => tmA X.lay D (tD X.lay fk) (tD X.lay fv)) hc hN hy hyl hsw hi ok hg ht (fun s H C cl fp D => pb_A (X := X.blk s H scope (compEnvC scope cl C X.env) fp) rfl hu (hk s H C cl fp) (hv s H C cl fp)) loopIs1 hs) (dc_use hss em_ok) hm
theorem z_dcn2D (i : Nat) (us1 : List Nat) (hu : X.A.units + 64 < cLine) (hc : X.calm = true) (hN : X.N.Nodup) (hi : PId X tg iter f) (ok : BlkOk X.N X.env.scope scope own) (hg : Blks X scope fun X => PGd X ss tg g) (ht : Blks X scope fun X => PTd X ifs t) (hi1 : Blks X scope fun X => PId X tg1 iter1 f1) (hg1 : Blks X scope fun X => PGd X ss1 tg1 g1) (ht1 : Blks X scope fun X => PTd X ifs1 t1)
    (hk : Blks X scope fun X => PD X kx fk) (hv : Blks X scope fun X => PD X vx fv) (hm : m0 ≤ i := by decide) (hy : X.N[i]? = some y := by rfl) (hyl : X.env.scope.names.lookup y = some .local := by rfl) (hsw : swapsWith (.DictComp kx vx [⟨tg, iter, ifs, 0⟩, ⟨tg1, iter1, ifs1, 0⟩] scope pos) (some (.Name y py)) spos.line X.env = pure true := by exact sw_dc rfl rfl rfl (by decide +kernel))
    (hss : ∀ i ∈ ss, i ∈ own.map (·.2) := by decide) (hss1 : ∀ i ∈ ss1, i ∈ us1 := by decide) (hvs : ∀ i ∈ us1, i ∈ own.map (·.2) := by decide) (hs : ∀ x, foldedSetIterable iter X.env x = pure x := by intro _; rfl) (hs1 : ∀ env x, foldedSetIterable iter1 env x = pure x := by intro _ _; rfl) :
    PZ X m0 (.Assign [.Name y py] (.DictComp kx vx [⟨tg, iter, ifs, 0⟩, ⟨tg1, iter1, ifs1, 0⟩] scope pos) spos) (asS (dcD f g t (inN f1 g1 t1 (emN fk fv) us1) (own.map (·.2))) (gN i)) :=
  dat_of i (ps_dcn (tm := fun D => tmB (tI X.lay f1) (tG X.lay ss1 g1) (tT X.lay t1) (tmA X.lay D (tD X.lay fk) (tD X.lay fv)) us1) hc hN hy hyl hsw hi ok hg ht
    (fun s H C cl fp D => pb_B (X := X.blk s H scope (compEnvC scope cl C X.env) fp) rfl hc hvs (hi1 s H C cl fp) (hg1 s H C cl fp) (ht1 s H C cl fp) (pb_A (X := X.blk s H scope (compEnvC scope cl C X.env) fp) rfl hu (hk s H C cl fp) (hv s H C cl fp))) (loopIs2 hs1) hs) (dc_use hss (in_ok hss1 hvs em_ok)) hm
end
end DL

set_option Elab.async false
set_option linter.all false
set_option maxRecDepth 100000
namespace DL
open PySem L2
/-! ### d.pop(k), d a name of one's own, k a nested tuple that is there -/
def dropN (xs : List NEnt) (k : NestedKey) : List NEnt := xs.filter fun x => decide (x.1 ≠ k)
def dropNd (ps : List (Dt × Dt)) (kd : Dt) : List (Dt × Dt) := ps.filter fun p => decide (toKey p.1 ≠ toKey kd)
theorem NPair.drop {k : NestedKey} : ∀ {xs : List NEnt} {ys : List (NestedKey × Addr × Value)}, NPair xs ys → NPair (dropN xs k) (withoutH ys k)
  | _, _, .nil => .nil
  | _, _, .cons (a := x) (b := y) (l₁ := xs) (l₂ := ys) h t => by
    have ih := NPair.drop (k := k) t
    by_cases e : x.1 = k
    · have e2 : y.1 = k := h.1.symm.trans e
      have z1 : dropN (x :: xs) k = dropN xs k := List.filter_cons_of_neg (by simp [e])
      have z2 : withoutH (y :: ys) k = withoutH ys k := List.filter_cons_of_neg (by simp [e2])
      rw [z1, z2]; exact ih
    · have e2 : ¬ y.1 = k := fun z => e (h.1.trans z)
      have z1 : dropN (x :: xs) k = x :: dropN xs k := List.filter_cons_of_pos (by simp [e])
      have z2 : withoutH (y :: ys) k = y :: withoutH ys k := List.filter_cons_of_pos (by simp [e2])
      rw [z1, z2]; exact .cons h ih
theorem AtN.drop {Y : Lay} {H : Hp} {kd : Dt} {k : NestedKey} (hk : toKey kd = some k) : ∀ {xs : List NEnt} {ps : List (Dt × Dt)}, AtN Y H xs ps → AtN Y H (dropN xs k) (dropNd ps kd)
  | _, _, .nil => .nil
  | _, _, .cons (k := k') (a := a) (v := v) (kd := kd') (d := d) (xs := xs) (ps := ps) h1 h2 h3 h4 => by
    have ih := AtN.drop hk h4
    by_cases e : k' = k
    · have z1 : dropN ((k', a, v) :: xs) k = dropN xs k := List.filter_cons_of_neg (by simp [e])
      have z2 : dropNd ((kd', d) :: ps) kd = dropNd ps kd := List.filter_cons_of_neg (by simp [h2, hk, e])
      rw [z1, z2]; exact ih
    · have z1 : dropN ((k', a, v) :: xs) k = (k', a, v) :: dropN xs k := List.filter_cons_of_pos (by simp [e])
      have z2 : dropNd ((kd', d) :: ps) kd = (kd', d) :: dropNd ps kd := List.filter_cons_of_pos (by simp [h2, hk, e])
      rw [z1, z2]; exact .cons h1 h2 h3 ih
section
variable {X : Cx} {pins : List (Addr × Obj)} {σ : St} {H : Hp} {s : Shared} {a : Addr} {xs : List NEnt} {ps : List (Dt × Dt)} {A : Around} {E : Value → Shared → Prop}
theorem n_pop {b : Addr} {k : NestedKey} {v : V} {Q : Value → Shared → Prop} (hu : A.units + 64 < cLine) (I : Inv X pins σ H s) {o : Obj} (e : H a = some (dnO X.lay a o xs)) (n : AtN X.lay H xs ps) (ki : (nestedKind X.prog X.w).is s.heap k b) (hv : valN xs k = some v)
    (h : ∀ o' w' s', Inv X pins σ (upd H a (dnO X.lay a o' (dropN xs k))) s' → RelV v w' → Q w' s') : wpAny (model X.prog X.w) A (call (.builtin "dict.pop") [.ref a, .ref b]) Q E s := by
  obtain ⟨h1, h2, hdep, ys, h3, dd⟩ := dn_rd I ⟨o, .inl e⟩ n
  rcases h3.val k with ⟨z, _⟩ | ⟨w, p, z1, z2, z3⟩
  · rw [z] at hv; cases hv
  rw [z1] at hv; cases hv
  refine call_pop_heap (.inl rfl) (PySem.F.args_dict_pop_2 _ _) (room_n hu) ki h1 dd z2 (fun h' dd' hs => ?_) (by rw [← Paired.length h3]; exact h2)
  obtain ⟨q, es, ep, hq, w2, w3, w4, _, w5⟩ := dd'
  refine h q _ _ (d_write I (by rw [e]; exact True.intro) hs ⟨q, hq⟩ ⟨⟨h1, Nat.le_trans (List.length_filter_le _ _) h2, fun x hx => hdep x (List.mem_filter.mp hx).1, _, NPair.drop h3, es, ep, hq, w2, w3, w4, w5⟩, ⟨q, hq⟩, ?_⟩) z3
  rintro g1 g2 ⟨c1, c2, c3, ys', c4, es', ep', c5, c6⟩ hk
  exact ⟨c1, c2, c3, ys', c4, es', ep', hk _ c5, c6⟩
end
def tNPop (Y : Lay) (td ty : TE) : TE := fun σ H Q => td σ H fun x H1 => ∃ a, x = .ref a ∧ (∃ zs, RdN Y H1 a zs) ∧ ty σ H1 fun y H2 => ∃ o zs ps k v, H2 a = some (dnO Y a o zs) ∧ AtN Y H2 zs ps ∧ KeyIs Y H2 y k ∧ valN zs k = some v ∧ ∀ o', Q v (upd H2 a (dnO Y a o' (dropN zs k)))
section
variable {X : Cx} {o e : Expr} {x : Str} {p apos cpos : Pos} {td ty : TE}
theorem pe_npop (hu : X.A.units + 64 < cLine) (ho : PE X o td) (he : PE X e ty) (m : M1 X o "pop" apos e cpos) : PE X (.Call (.Attribute o "pop" apos) [e] [] cpos) (tNPop X.lay td ty) := by
  refine ⟨fun pins s σ H Q I h => ?_⟩
  refine wpAny_Call_method m.base m.few m.line PySem.F.plainAttrs_dict PySem.F.slot_dict_pop PySem.F.type_dict_pop (thn (ho.run pins s σ H _ I h) fun u s1 ⟨x, H1, I1, rx, a, ex, ⟨zs, oz, hz⟩, q1⟩ => ?_)
  subst ex
  obtain rfl : u = Value.ref a := rx
  obtain ⟨hs, hgd, hx, es, ep, hdt, hsz, ent⟩ := dn_obj I1 hz
  refine ⟨⟨oz, hgd, hx.1⟩, fun b hb => by cases hb; exact ⟨oz, hgd, hx.2.1⟩, ?_⟩
  rw [m.trees]
  refine Calls.callWith_builtin rfl (Calls.evalArgs_plain (Calls.spliced_cons (thn (he.run pins s1 σ H1 _ I1 q1) fun iv s2 ⟨y, H2, I2, ry, o2, zs', ps, k, v, g1, g2, g3, g4, q2⟩ => Calls.spliced_nil ?_)))
  obtain ⟨b, rfl, rfl, ki⟩ := g3.is I2 ry
  exact n_pop hu I2 g1 g2 ki g4 fun o' w' s3 I3 rw' => ⟨_, _, I3, rw', q2 o'⟩
def popND (i : Nat) (fk : FD) : FD := fun e => (ownD e i).bind fun ps0 => if keysN ps0 = true then (fk e).bind fun q => (ownD q.2 i).bind fun ps => if keysN ps = true ∧ isTupD q.1 = true ∧ okKey q.1 = true then (getNd ps q.1).bind fun d => some (d, q.2.set i (.own (.dict (dropNd ps q.1)))) else none else none
theorem d_npop (i : Nat) {fk : FD} (hu : X.A.units + 64 < cLine) (he : PD X e fk) (hN : X.N[i]? = some x := by rfl) (hv : Vis X.env.scope x := by first | exact Or.inl rfl | exact Or.inr (Or.inl rfl) | exact Or.inr (Or.inr rfl)) (hd : (x == ("__debug__" : Str)) = false := by decide) (hcd : (x == ("__classdict__" : Str)) = false := by decide)
    (m : M1 X (.Name x p) "pop" apos e cpos := by exact ⟨rfl, rfl, rfl, rfl⟩) : PD X (.Call (.Attribute (.Name x p) "pop" apos) [e] [] cpos) (popND i fk) := (pe_npop hu (pe_var hN hv hd hcd) he m).imp fun σ H Q q => by
  obtain ⟨F, env, d, env', R0, hf, k⟩ := q
  obtain ⟨ps0, h0, hf⟩ := Option.bind_eq_some_iff.mp hf
  split at hf
  rotate_left
  · cases hf
  rename_i hk0
  obtain ⟨⟨dk, e2⟩, h2, hf⟩ := Option.bind_eq_some_iff.mp hf
  obtain ⟨ps, h3, hf⟩ := Option.bind_eq_some_iff.mp hf
  split at hf
  rotate_left
  · cases hf
  rename_i hz
  obtain ⟨dv, h4, hf⟩ := Option.bind_eq_some_iff.mp hf
  cases hf
  obtain ⟨z1, z2, z3⟩ := hz
  obtain ⟨a, xs0, g1, ⟨o0, g0⟩, _⟩ := rel_ownD R0 h0 hk0
  refine ⟨.ref a, g1, a, rfl, ⟨xs0, o0, .inl g0⟩, F, env, dk, e2, R0, h2, fun w H2 R2 kd2 s2 a2 => ?_⟩
  obtain ⟨b, xs, g3, ⟨o2, g4⟩, g5⟩ := rel_ownD R2 h3 z1
  rw [g1] at g3
  cases g3
  obtain ⟨kk, k1, k2⟩ := (See.at a2).key z2 z3
  have hg : getNd ps dk = getN ps kk := by unfold getNd; rw [k1]; rfl
  rcases g5.val kk with ⟨_, y2⟩ | ⟨v, d', y1, y2, y3⟩
  · rw [hg, y2] at h4; cases h4
  rw [hg, y2] at h4
  cases h4
  refine ⟨o2, xs, ps, kk, v, g4, g5.mono (hide_le _ _), k2, y1, fun o' => ?_⟩
  obtain ⟨R3, kd3, s3⟩ := R2.dicN (o' := o') h3 g1 (g5.drop k1)
  exact k v _ R3 (kd2.trans kd3) (s2.trans s3) (y3.mono s3.same)
end
end DL

set_option Elab.async false
set_option linter.all false
set_option maxRecDepth 100000
namespace DL
open PySem L2
/-! ### what one owns, read as data while a new object of flat things is made -/
mutual
def flatD : Dt → Bool
  | .none => true
  | .bool _ => true
  | .int _ => true
  | .str _ => true
  | .tuple ds => flatDs ds
  | _ => false
def flatDs : List Dt → Bool
  | [] => true
  | d :: ds => flatD d && flatDs ds
end
/-- the items of a new object -/
def flatI : Dt → Bool
  | .list ds => flatDs ds
  | .dict ps => ps.all fun p => flatD p.1 && flatD p.2
  | _ => false
section
variable {Y : Lay} {O O' : Addr → Prop} {H : Hp}
theorem rd_hide {a : Addr} {o : HO} (e : Rd (hide O H) a o) : ¬ O a ∧ Rd H a o := by
  unfold Rd at *
  rcases e with e | ⟨o', e⟩
  · exact ⟨(hide_some.mp e).1, .inl (hide_some.mp e).2⟩
  · exact ⟨(hide_some.mp e).1, .inr ⟨o', (hide_some.mp e).2⟩⟩
theorem rd_show {a : Addr} {o : HO} (n : ¬ O' a) (e : Rd H a o) : Rd (hide O' H) a o := by
  unfold Rd at *
  rcases e with e | ⟨o', e⟩
  · exact .inl (hide_some.mpr ⟨n, e⟩)
  · exact .inr ⟨o', hide_some.mpr ⟨n, e⟩⟩
mutual
theorem At.more (h : ∀ a, O' a → ¬ O a → ∀ vs, ¬ Rd H a (.tup vs)) : ∀ {v : V} {d : Dt}, At Y (hide O H) v d → flatD d = true → At Y (hide O' H) v d
  | _, _, .non, _ => .non
  | _, _, .bl b, _ => .bl b
  | _, _, .int i, _ => .int i
  | _, _, .str x, _ => .str x
  | _, _, .tup (a := a) (vs := vs) e k, f => by
    refine .tup ?_ (Ats.more h k (by simpa [flatD] using f))
    rcases e with e | e
    · obtain ⟨nO, r⟩ := rd_hide e
      exact .inl (rd_show (fun z => h a z nO vs r) r)
    · exact .inr e
  | _, _, .lst _ _, f => by simp [flatD] at f
  | _, _, .scr _ _, f => by simp [flatD] at f
  | _, _, .dicK _ _ _, f => by simp [flatD] at f
  | _, _, .dicN _ _, f => by simp [flatD] at f
theorem Ats.more (h : ∀ a, O' a → ¬ O a → ∀ vs, ¬ Rd H a (.tup vs)) : ∀ {vs : List V} {ds : List Dt}, Ats Y (hide O H) vs ds → flatDs ds = true → Ats Y (hide O' H) vs ds
  | _, _, .nil, _ => .nil
  | _, _, .cons e k, f => by
    simp only [flatDs, Bool.and_eq_true] at f
    exact .cons (At.more h e f.1) (Ats.more h k f.2)
end
theorem AtK.more (h : ∀ a, O' a → ¬ O a → ∀ vs, ¬ Rd H a (.tup vs)) : ∀ {vs : List (Key × V)} {ps : List (Dt × Dt)}, AtK Y (hide O H) vs ps → (ps.all fun p => flatD p.1 && flatD p.2) = true → AtK Y (hide O' H) vs ps
  | _, _, .nil, _ => .nil
  | _, _, .int e k, f => by
    simp only [List.all_cons, Bool.and_eq_true] at f
    exact .int (At.more h e f.1.2) (AtK.more h k f.2)
  | _, _, .str e k, f => by
    simp only [List.all_cons, Bool.and_eq_true] at f
    exact .str (At.more h e f.1.2) (AtK.more h k f.2)
theorem AtN.more (h : ∀ a, O' a → ¬ O a → ∀ vs, ¬ Rd H a (.tup vs)) : ∀ {vs : List NEnt} {ps : List (Dt × Dt)}, AtN Y (hide O H) vs ps → (ps.all fun p => flatD p.1 && flatD p.2) = true → AtN Y (hide O' H) vs ps
  | _, _, .nil, _ => .nil
  | _, _, .cons e1 e2 e3 k, f => by
    simp only [List.all_cons, Bool.and_eq_true] at f
    exact .cons (At.more h e1 f.1.1) e2 (At.more h e3 f.1.2) (AtN.more h k f.2)
theorem OwnAt.more {a : Addr} {d : Dt} (h : ∀ a, O' a → ¬ O a → ∀ vs, ¬ Rd H a (.tup vs)) (k : OwnAt Y (hide O H) H a d) (f : flatI d = true) : OwnAt Y (hide O' H) H a d := by
  cases k with
  | lst e q => exact .lst e (q.more h f)
  | dicK e q z => exact .dicK e (q.more h f) z
  | dicN e q => exact .dicN e (q.more h f)
end
/-- all that is one's own, as data -/
def datE (e : En) : En := e.map fun c => match c with
  | .own d => .dat d
  | c => c
open Classical in
noncomputable def borF (f : FD) : FD := fun e => (f (datE e)).bind fun p => if p.2 = datE e ∧ flatI p.1 = true then some (p.1, e) else none
theorem OwnAt.no_tup {Y : Lay} {Hh H : Hp} {a : Addr} {d : Dt} (h : OwnAt Y Hh H a d) (vs : List V) : ¬ Rd H a (.tup vs) := by
  unfold Rd
  rintro (z | ⟨o', z⟩)
  all_goals
    cases h with
    | lst e _ => rw [e] at z; cases z
    | dicK e _ _ => rw [e] at z; cases z
    | dicN e _ => rw [e] at z; cases z
theorem datE_get (e : En) (i : Nat) : (datE e)[i]? = (e[i]?).map fun c => match c with
  | .own d => .dat d
  | c => c := by unfold datE; rw [List.getElem?_map]
open Classical in
noncomputable def borFr (F : Fr) (σ : St) (H : Hp) (env : En) : Fr := ⟨fun a => if (∃ (i : Nat) (d : Dt), env[i]? = some (Cell.own d) ∧ σ[i]? = some (some (V.ref a))) then H a else F.H0 a, F.O0, []⟩
theorem bor_use {Y : Lay} {f : FD} : ∀ σ H Q, tF Y (borF f) σ H Q → tF Y f σ H Q := fun σ H Q q => by
  obtain ⟨F, env, d, env', R0, hf, k⟩ := q
  obtain ⟨⟨d1, e1⟩, h1, hf⟩ := Option.bind_eq_some_iff.mp hf
  split at hf
  rotate_left
  · cases hf
  rename_i hz
  cases hf
  obtain ⟨rfl, hfl⟩ := hz
  -- what is one's own
  have there : ∀ {i : Nat} {d : Dt} {a : Addr}, env[i]? = some (Cell.own d) → σ[i]? = some (some (V.ref a)) → OwnAt Y (hide (Ow F σ env) H) H a d := fun {i d a} h1 h2 => by
    obtain ⟨b, g1, g2, _⟩ := R0.own i d h1
    rw [g1] at h2
    cases h2
    exact g2
  have no : ∀ (i : Nat) (d : Dt), (datE env)[i]? ≠ some (Cell.own d) := fun i d z => by
    rw [datE_get] at z
    cases hc : env[i]? with
    | none => rw [hc] at z; cases z
    | some c => rw [hc] at z; cases c <;> cases z
  have hO : ∀ a, Ow (borFr F σ H env) σ (datE env) a ↔ F.O0 a := fun a => by
    unfold Ow
    constructor
    · rintro (z | ⟨i, d, z, _⟩)
      · exact z
      · exact absurd z (no i d)
    · exact .inl
  have sub : ∀ a, Ow (borFr F σ H env) σ (datE env) a → Ow F σ env a := fun a z => .inl ((hO a).mp z)
  have R1 : Rel Y (borFr F σ H env) σ H (datE env) := by
    refine ⟨fun a z => ?_, fun a z => (nomatch z), ?_, fun a o e _ => ?_, fun i d e => absurd e (no i d), fun i j d _ a e => absurd e (no i d), fun i d e => ?_, fun j a e => by cases e⟩
    · show ∃ o, (borFr F σ H env).H0 a = some o
      unfold borFr
      dsimp only
      split
      · rename_i hx
        obtain ⟨i, d, g1, g2⟩ := hx
        exact (there g1 g2).there
      · exact R0.dom a z
    · rw [R0.len]; unfold datE; rw [List.length_map]
    · unfold borFr at e
      dsimp only at e
      split at e
      · exact e
      · rename_i hx
        refine R0.keep a o e fun hm => ?_
        obtain ⟨j, hj, ej⟩ := List.mem_iff_getElem.mp hm
        obtain ⟨g1, d, g2⟩ := R0.msAt j a (by rw [List.getElem?_eq_getElem hj, ej])
        exact hx ⟨j, d, g2, g1⟩
    · rw [datE_get] at e
      cases hc : env[i]? with
      | none => rw [hc] at e; cases e
      | some c =>
        rw [hc] at e
        cases c with
        | un => cases e
        | dat d' =>
          cases e
          obtain ⟨v, g1, g2⟩ := R0.dat i _ hc
          exact ⟨v, g1, g2.mono (hide_sub sub)⟩
        | own d' =>
          cases e
          obtain ⟨a, g1, g2, g3⟩ := R0.own i _ hc
          refine ⟨_, g1, g2.at (hide_sub sub) fun o z => hide_some.mpr ⟨fun w => ?_, z⟩⟩
          have w := (hO a).mp w
          rcases g3 with g3 | g3
          · exact R0.msO a g3 w
          · obtain ⟨u, q⟩ := R0.dom a w
            rw [g3] at q; cases q
  refine ⟨_, _, d1, _, R1, h1, fun p o H' hp R2 _ st a => ?_⟩
  -- one's own is as it was
  have same : ∀ {i : Nat} {d : Dt} {a : Addr}, env[i]? = some (Cell.own d) → σ[i]? = some (some (V.ref a)) → ∀ u, H a = some u → H' a = some u := fun {i d a} g1 g2 u e => by
    refine R2.keep a u ?_ (by simp [Fr.plus, borFr])
    have na : a ≠ p := fun z => by rw [z, hp] at e; cases e
    show upd _ p o a = some u
    rw [upd_ne na]
    unfold borFr
    dsimp only
    rw [if_pos ⟨i, d, g1, g2⟩]
    exact e
  have st2 : Stp (Ow F σ env) H (Ow (F.plus p o) σ env) H' := fun c u n e => by
    refine ⟨fun z => ?_, (st c u (fun z => n (sub c z)) e).2⟩
    rcases ow_plus.mp z with z | z
    · rw [z, hp] at e; cases e
    · exact n z
  have hpo : H' p = some o := R2.keep p o (show upd _ p o p = some o from upd_same) (by simp [Fr.plus, borFr])
  refine k p o H' hp ⟨fun a z => ?_, fun a ha => ?_, R0.len, fun a u e n => ?_, fun i d e => ?_, R0.inj, fun i d e => ?_, R0.msAt⟩ (Kd.refl _) st2 ?_
  · show ∃ u, upd F.H0 p o a = some u
    by_cases e : a = p
    · rw [e]; exact ⟨_, upd_same⟩
    · rw [upd_ne e]
      exact R0.dom a (z.elim (fun w => absurd w e) id)
  · rintro (z | z)
    · obtain ⟨u, q⟩ := R0.ms_there ha
      rw [z, hp] at q; cases q
    · exact R0.msO a ha z
  · have e : upd F.H0 p o a = some u := e
    by_cases z : a = p
    · subst z
      rw [upd_same] at e
      cases e
      exact hpo
    · rw [upd_ne z] at e
      have e0 := R0.keep a u e n
      refine R2.keep a u ?_ (by simp [Fr.plus, borFr])
      show upd _ p o a = some u
      rw [upd_ne z]
      unfold borFr
      dsimp only
      split
      · exact e0
      · exact e
  · obtain ⟨a, g1, g2, g3⟩ := R0.own i d e
    refine ⟨a, g1, g2.mono st2.same (same e g1), ?_⟩
    rcases g3 with g3 | g3
    · exact .inl g3
    · refine .inr ?_
      show upd F.H0 p o a = none
      rw [upd_ne, g3]
      intro z
      obtain ⟨u, q⟩ := g2.there
      rw [z, hp] at q; cases q
  · obtain ⟨v, g1, g2⟩ := R0.dat i d e
    exact ⟨v, g1, g2.mono st2.same⟩
  · refine OwnAt.more (fun b hb nb vs => ?_) a hfl
    rcases ow_plus.mp hb with z | z
    · exact absurd (ow_plus.mpr (.inl z)) nb
    · rcases z with z | ⟨i, d, g1, g2⟩
      · exact absurd (ow_plus.mpr (.inr ((hO b).mpr z))) nb
      · intro e
        refine (there g1 g2).no_tup vs ?_
        obtain ⟨u, q⟩ := (there g1 g2).there
        have q' := same g1 g2 u q
        unfold Rd at *
        rw [q'] at e
        rw [q]
        exact e
section
variable {X : Cx} {e : Expr} {f : FD}
theorem f_bor (h : PF X e f) : PF X e (borF f) := h.imp bor_use
/-- name = [..] on one line, the rest borrowed; read only -/
theorem z_lcB {m : Nat} {ss : List Nat} (i : Nat) {y : Str} {py : Pos} {elt tg iter : Expr} {ifs : List Expr} {scope : Scope} {own : List (Str × Nat)} {pos spos : Pos} {f : FI} {g : FG} {t : FT} {fe : FD} (hc : X.calm = true) (hN : X.N.Nodup) (hi : PId X tg iter f) (ok : BlkOk X.N X.env.scope scope own) (hg : Blks X scope fun X => PGd X ss tg g) (ht : Blks X scope fun X => PTd X ifs t) (he : Blks X scope fun X => PD X elt fe)
    (hm : m ≤ i := by decide) (hy : X.N[i]? = some y := by rfl) (hyl : X.env.scope.names.lookup y = some .local := by rfl) (hsw : swapsWith (.ListComp elt [⟨tg, iter, ifs, 0⟩] scope pos) (some (.Name y py)) spos.line X.env = pure true := by exact sw_true rfl rfl rfl (by decide +kernel)) (hss : ∀ i ∈ ss, i ∈ own.map (·.2) := by decide) (hs : ∀ x, foldedSetIterable iter X.env x = pure x := by intro _; rfl) :
    PZ X m (.Assign [.Name y py] (.ListComp elt [⟨tg, iter, ifs, 0⟩] scope pos) spos) (asS (borF (lcD f g t fe (own.map (·.2)))) (gN i)) := dat_of i (ps_setLc hc hN hy hyl hsw hi ok hg ht he hs) (fun σ H Q q => lc_use hss σ H Q (bor_use σ H Q q)) hm
end
/-- a comprehension within another one -/
theorem blkOk_in {N : List Str} {scope0 scope : Scope} {own : List (Str × Nat)} (sc0 : Scope) (h : blkC N (relS scope0 sc0) scope own = true) : BlkOk N (relS scope0 sc0) scope own := blkOk_by h
end DL

set_option Elab.async false
set_option linter.all false
set_option maxRecDepth 100000
namespace DL
open PySem L2
/-! d.get(k, x), k an int or a text, d such a dict or an empty one -/
section
variable {X : Cx} {pins : List (Addr × Obj)} {σ : St} {H : Hp} {s : Shared} {a : Addr} {A : Around} {E : Value → Shared → Prop}
theorem dn_mix (I : Inv X pins σ H s) (e : RdN X.lay H a []) : (a == sysModules) = false ∧ s.heap.DictOf (mixKind X.prog X.w) a [] := by
  obtain ⟨o, e⟩ := e
  obtain ⟨h1, h2, h3, es, ep, h4, h5, _⟩ := dn_obj I e
  have he : es = #[] := Array.eq_empty_of_size_eq_zero h5
  subst he
  exact ⟨h1, o, #[], ep, h2, h3, h4, (fun _ z => nomatch z), .nil, List.nodup_nil⟩
theorem e_get2 {y z : V} {u r : Value} {k : Key} {Q : Value → Shared → Prop} (I : Inv X pins σ H s) (e : RdN X.lay H a []) (ey : y = kV k) (ry : RelV y u) (rd : RelV z r) (h : ∀ w' s', Inv X pins σ H s' → RelV z w' → Q w' s') :
    wpAny (model X.prog X.w) A (call (.builtin "dict.get") [.ref a, u, r]) Q E s := by
  subst ey
  obtain ⟨hd, dd⟩ := dn_mix I e
  have rel : KV ([] : List (Key × V)) [] := .nil
  exact call_meetsIn PySem.F.slot_dict_get dd.typeIs PySem.F.entry_dict_get (PySem.F.args_dict_get_3 _ _ _) (meets_dict_get_default (mixKind X.prog X.w) a (kV_is ry) hd r) ⟨_, dd.mapOf, h _ _ (I.tok _) ((rel.val k).getD rd)⟩
end
def tGetE (Y : Lay) (td ty tx : TE) : TE := fun σ H Q => td σ H fun x H1 => ∃ a, x = .ref a ∧ (IsD H1 a ∨ RdN Y H1 a []) ∧ ty σ H1 fun y H2 => tx σ H2 fun z H3 => (∃ o, DGet H3 a y o ∧ Q (o.getD z) H3) ∨ ∃ k, y = kV k ∧ RdN Y H3 a [] ∧ Q z H3
section
variable {X : Cx} {o e f : Expr} {apos cpos : Pos} {td ty tx : TE}
theorem pe_getE (hu : X.A.units + 1 < cLine) (ho : PE X o td) (he : PE X e ty) (hf : PE X f tx) (m : M2 X o "get" apos e f cpos) : PE X (.Call (.Attribute o "get" apos) [e, f] [] cpos) (tGetE X.lay td ty tx) := by
  refine ⟨fun pins s σ H Q I h => ?_⟩
  refine wpAny_Call_method m.base m.few m.line PySem.F.plainAttrs_dict PySem.F.slot_dict_get PySem.F.type_dict_get (thn (ho.run pins s σ H _ I h) fun u s1 ⟨x, H1, I1, rx, a, ex, d, q1⟩ => ?_)
  subst ex
  obtain rfl : u = Value.ref a := rx
  obtain ⟨t1, t2⟩ : s1.TypeIs (.ref a) "dict" ∧ (∀ b, Value.ref a = .ref b → ∃ ob, s1.heap.get? b = some ob ∧ ob.dict = none) := by
    rcases d with d | ⟨oz, hz⟩
    · exact ⟨(isD_at I1 d).1, (isD_at I1 d).2.1⟩
    · obtain ⟨hs, hgd, hx, es, ep, hdt, hsz, ent⟩ := dn_obj I1 hz
      exact ⟨⟨oz, hgd, hx.1⟩, fun b hb => by cases hb; exact ⟨oz, hgd, hx.2.1⟩⟩
  refine ⟨t1, t2, ?_⟩
  rw [m.trees]
  refine Calls.callWith_builtin rfl (Calls.evalArgs_plain (Calls.spliced_cons (thn (he.run pins s1 σ H1 _ I1 q1) fun iv s2 ⟨y, H2, I2, ry, q2⟩ =>
    Calls.spliced_cons (thn (hf.run pins s2 σ H2 _ I2 q2) fun fv s3 ⟨z, H3, I3, rz, q3⟩ => Calls.spliced_nil ?_))))
  rcases q3 with ⟨ov, g, q3⟩ | ⟨k, ey, g, q3⟩
  · exact L2.d_get2 hu I3 g ry rz fun w' s4 I4 rw' => ⟨_, H3, I4, rw', q3⟩
  · exact e_get2 I3 g ey ry rz fun w' s4 I4 rw' => ⟨_, H3, I4, rw', q3⟩
def isKd (d : Dt) : Bool := match d with
  | .dict ps => keysOk ps
  | _ => false
theorem isKd_some {d : Dt} (h : isKd d = true) : ∃ ps, d = .dict ps ∧ keysOk ps = true := by
  cases d with
  | dict ps => exact ⟨ps, rfl, h⟩
  | _ => cases h
def getKG (d k : Dt) : Option (Option Dt) := match d with
  | .dict ps => if keysOk ps = true ∧ (keyOf k).isSome = true then some (getP ps k) else none
  | _ => none
theorem getKG_some {d k : Dt} {r : Option Dt} (h : getKG d k = some r) : ∃ ps, d = .dict ps ∧ keysOk ps = true ∧ (∃ kk, keyOf k = some kk) ∧ r = getP ps k := by
  unfold getKG at h
  split at h
  · split at h
    · rename_i ps hz
      cases h
      exact ⟨_, rfl, hz.1, Option.isSome_iff_exists.mp hz.2, rfl⟩
    · cases h
  · cases h
theorem See.dKE {Y : Lay} {O : Addr → Prop} {H : Hp} {v : V} {ps : List (Dt × Dt)} (h : See Y O H v (.dict ps)) (hk : keysOk ps = true) : ∃ a, v = .ref a ∧ ((∃ kvs, Rd H a (.dK kvs) ∧ AtK Y (hide O H) kvs ps) ∨ (ps = [] ∧ RdN Y H a [])) := by
  cases ps with
  | cons p ps =>
    obtain ⟨a, kvs, e, g1, g2⟩ := h.dK hk (by simp)
    exact ⟨a, e, .inl ⟨kvs, g1, g2⟩⟩
  | nil =>
    obtain ⟨a, xs, e, g1, g2⟩ := h.dN rfl
    cases g2
    exact ⟨a, e, .inr ⟨rfl, g1⟩⟩
def get2E (fd : FV) (fk fx : FD) : FD := fun e => (fd e).bind fun p => (toD p.2 p.1).bind fun d0 => if isKd d0 = true then (fk p.2).bind fun q => (fx q.2).bind fun r => (toD r.2 p.1).bind fun d => (getKG d q.1).bind fun o => some (o.getD r.1, r.2) else none
theorem d_get2E {fo : FV} {fk fx : FD} (hu : X.A.units + 64 < cLine) (ho : PV X o fo) (he : PD X e fk) (hf : PD X f fx) (m : M2 X o "get" apos e f cpos := by exact ⟨rfl, rfl, rfl, rfl⟩) : PD X (.Call (.Attribute o "get" apos) [e, f] [] cpos) (get2E fo fk fx) := (pe_getE (by omega) ho he hf m).imp fun σ H Q q => by
  obtain ⟨F, env, d, env', R0, hf, k⟩ := q
  obtain ⟨⟨r1, e1⟩, h1, hf⟩ := Option.bind_eq_some_iff.mp hf
  obtain ⟨d0, h2, hf⟩ := Option.bind_eq_some_iff.mp hf
  split at hf
  · rename_i hd0
    obtain ⟨⟨dk, e2⟩, h4, hf⟩ := Option.bind_eq_some_iff.mp hf
    obtain ⟨⟨dx, e3⟩, h5, hf⟩ := Option.bind_eq_some_iff.mp hf
    obtain ⟨d1, h6, hf⟩ := Option.bind_eq_some_iff.mp hf
    obtain ⟨o1, h7, hf⟩ := Option.bind_eq_some_iff.mp hf
    cases hf
    refine ⟨F, env, r1, e1, R0, h1, fun v1 H1 R1 kd1 s1 a1 => ?_⟩
    obtain ⟨ps0, rfl, g1⟩ := isKd_some hd0
    obtain ⟨a, rfl, g3⟩ := (a1.see' R1 h2).dKE g1
    refine ⟨a, rfl, g3.elim (fun ⟨kvs, z, _⟩ => .inl (.inl ⟨kvs, z⟩)) (fun z => .inr z.2), F, e1, dk, e2, R1, h4, fun v2 H2 R2 kd2 s2 a2 => ⟨F, e2, dx, _, R2, h5, fun v3 H3 R3 kd3 s3 a3 => ?_⟩⟩
    obtain ⟨ps1, rfl, g4, ⟨kk, g6⟩, rfl⟩ := getKG_some h7
    obtain ⟨b, eb, g7⟩ := (((a1.step kd2 s2).step kd3 s3).see' R3 h6).dKE g4
    cases eb
    have kD := keyOf_some g6
    have kd := (kd1.trans kd2).trans kd3
    have st := (s1.trans s2).trans s3
    rcases g7 with ⟨kvs1, g7, g8⟩ | ⟨rfl, g7⟩
    · refine .inl ⟨valV kvs1 kk, .inl ⟨kvs1, kk, g7, kD.at a2, rfl⟩, ?_⟩
      rcases g8.get kD with ⟨z1, z2⟩ | ⟨v, d, z1, z2, z3⟩
      · rw [z1]
        refine k v3 H3 R3 kd st ?_
        have : (getP ps1 dk).getD dx = dx := by rw [z2]; rfl
        rw [this]
        exact a3
      · rw [z1]
        refine k v H3 R3 kd st ?_
        have : (getP ps1 dk).getD dx = d := by rw [z2]; rfl
        rw [this]
        exact z3
    · exact .inr ⟨kk, kD.at a2, g7, k v3 H3 R3 kd st a3⟩
  · cases hf
end
/-! sorted(d) of an empty dict -/
section
open PyProof.Rows
variable {X : Cx}
theorem call_sortedDE (calm : X.calm = true) : CallR X (.builtin "sorted") fun xs H Q => ∃ a : Addr, xs = [.ref a] ∧ RdN X.lay H a [] ∧ ∀ p, H p = none → Q (.ref p) (upd H p (.lst [])) := fun pins s σ H xs us Q I r q => by
  obtain ⟨a, rfl, hd, q⟩ := q
  obtain ⟨u, rfl, rx⟩ := vals1 r
  cases rx
  obtain ⟨lo, dd⟩ := dn_mix I hd
  obtain ⟨ep, hat⟩ := dd.dictAt
  refine Calls.call_function_entry kind_sorted plain_sorted entry_sorted (args_sorted1 _) ?_
  unfold Builtin.«sorted»
  refine wpAny_bind (m := checkCount "sorted" 1 1 _) (wpAny_pure ?_)
  refine wpAny_bind (PySem.W.kdu_collect (A := X.A.in1) (PySem.W.kdl_dict (knd := mixKind X.prog X.w) (kvs := []) (ep := ep) lo) (I.ok.hd calm) hat (Nat.zero_le _) fun h' tk acc hk hacc => ?_)
  have hal : acc.toList.length = 0 := by rw [Array.length_toList]; exact hacc.1
  have hS : IntsAre acc.toList [] := ints_each hal fun j v e => by
    have := (List.getElem?_eq_some_iff.mp e).1
    omega
  have I1 : Inv X pins σ H { s with heap := h', toks := tk } := I.kept hk
  refine wpAny_bind (wpAny_newList ?_ (by rw [hal]; exact Nat.zero_le _))
  have hoL : (h'.push (seqObj "list" acc.toList.toArray 0)).get? h'.objs.size = some (seqObj "list" acc.toList.toArray 0) := Heap.get?_push_size _ rfl
  show wpAny _ _ _ _ _ { s with heap := h'.push (seqObj "list" acc.toList.toArray 0), toks := tk }
  refine wpAny_bind (wpAny_holding (wpAny_call_entry slot_list_sort ⟨_, hoL, rfl⟩ entry_list_sort (list_sort_tree
    (s := { heap := h'.push (seqObj "list" acc.toList.toArray 0), gens := s.gens, drawn := s.drawn, toks := tk, os := s.os }) hoL hS (by rw [hal]; decide) fun out ys g1 g2 g3 => ⟨_, rfl, ?_⟩) (args_list_sort _)))
  obtain ⟨e', he'⟩ := sortedHeap_at (vs := acc.toList) (out := out) hoL
  have hy : ys = [] := List.eq_nil_of_length_eq_zero g2.length_eq
  subst hy
  have w : ObjOk X.prog X.w (upd H h'.objs.size (.lst [])) _ h'.objs.size (.lst []) := ⟨Nat.zero_le _, out.toList, e', vals_of_ints g1, by rw [Array.toArray_toList]; exact he'⟩
  refine wpAny_pure ⟨_, rfl, .ref h'.objs.size, upd H h'.objs.size (.lst []), I1.laid (t' := tk) (fun b u e => ?_) (Nat.le_refl _) w, rfl, q _ (I1.hok.fresh (Nat.le_refl _))⟩
  have hb := Heap.lt_size e
  refine (sortedHeap_old (Nat.ne_of_lt hb) ?_).trans (Heap.get?_push_of_some _ e)
  rw [size_push']
  exact Nat.lt_succ_of_lt hb
end
def sortKE : List Dt → Option Dt
  | [.dict []] => some (.list [])
  | ds => sortKD ds
theorem sem_sortKE {Y : Lay} : SemFC Y (fun xs H Q => (∃ a : Addr, xs = [.ref a] ∧ RdN Y H a [] ∧ ∀ p, H p = none → Q (.ref p) (upd H p (.lst []))) ∨ rSortKI xs H Q) sortKE := by
  intro O H xs ds d Q hO hs hg k
  unfold sortKE at hg
  split at hg
  · cases hg
    obtain ⟨x, rfl, h⟩ := hs.one
    obtain ⟨a, xs', rfl, h3, h4⟩ := h.dN rfl
    cases h4
    exact .inl ⟨a, rfl, h3, fun p hp => k p _ _ hp upd_same (same_upd hp) (new_lst hp .nil)⟩
  · exact .inr (sem_sortK O H xs ds d Q hO hs hg k)
/-! d[k] of such a dict -/
def ixK (x k : Dt) : Option Dt := match x with
  | .dict ps => if keysOk ps = true ∧ (keyOf k).isSome = true then getP ps k else none
  | _ => none
abbrev rGetK : R2 := fun x y H Q => ∃ a v, x = .ref a ∧ DGet H a y (some v) ∧ Q v H
theorem sem_ixK {Y : Lay} : Sem2 Y rGetK ixK := by
  intro O H x y dx dy d Q hO hx hy hg k
  unfold ixK at hg
  split at hg
  · split at hg
    · rename_i ps hz
      obtain ⟨kk, z2⟩ := Option.isSome_iff_exists.mp hz.2
      have kD := keyOf_some z2
      obtain ⟨a, rfl, g⟩ := hx.dKE hz.1
      rcases g with ⟨kvs, g1, g2⟩ | ⟨rfl, _⟩
      · rcases g2.get kD with ⟨z1, z3⟩ | ⟨v, d', z1, z3, z4⟩
        · rw [z3] at hg
          cases hg
        · rw [z3] at hg
          cases hg
          refine ⟨a, v, rfl, .inl ⟨kvs, kk, g1, ?_, z1.symm⟩, k v H (Same.refl _) z4⟩
          cases kD with
          | int i => exact hy.int
          | str x => exact hy.str
      · cases hg
    · cases hg
  · cases hg
theorem d_itemK {X : Cx} {a b : Expr} {fa fb : FV} {pos : Pos} (hu : X.A.units + 64 < cLine) (ha : PV X a fa) (hb : PV X b fb) (hs : NoSl b := by exact fun _ _ => rfl) : PD X (.Subscript a b pos) (binD ixK fa fb) := (pe_dget (by omega) ha hb hs).imp (bin_use sem_ixK)
end DL

set_option Elab.async false
set_option linter.all false
set_option maxRecDepth 100000
namespace DL
open PySem L2
/-! evaluation, judgement by judgement: bnd is Option.bind, but simp does not look behind it before it is reached -/
structure Tg {α β : Type} (f : α → Option β) : Type where
def _root_.Option.bnd {α β : Type} (a : Option α) (f : α → Option β) (_ : Tg f := ⟨⟩) : Option β := a.bind f
namespace Ev
variable {e : En}
@[simp] theorem bnd_s {α β : Type} {a : α} {f : α → Option β} {t : Tg f} : (some a).bnd f t = f a := id rfl
@[simp] theorem bnd_n {α β : Type} {f : α → Option β} {t : Tg f} : (none : Option α).bnd f t = none := id rfl
@[simp] theorem bnd_if {α β : Type} {c : Prop} [Decidable c] {x y : Option α} {f : α → Option β} {t : Tg f} : (if c then x else y).bnd f t = if c then x.bnd f t else y.bnd f t := by split <;> rfl
@[simp] theorem xV_e {i : Nat} : xV i e = match e[i]? with
  | some (.dat d) => some (.d d, e)
  | some (.own _) => some (.o i, e)
  | _ => none := id rfl
@[simp] theorem xD_e {i : Nat} : xD i e = match e[i]? with
  | some (.dat d) => some (d, e)
  | _ => none := id rfl
@[simp] theorem kD_e {d : Dt} : kD d e = some (d, e) := id rfl
@[simp] theorem vD_e {f : FD} : vD f e = (f e).bnd fun p => some (R.d p.1, p.2) := by unfold vD; cases f e <;> rfl
@[simp] theorem toD_d {d : Dt} : toD e (.d d) = some d := id rfl
@[simp] theorem toD_o {i : Nat} : toD e (.o i) = match e[i]? with
  | some (.own d) => some d
  | _ => none := id rfl
@[simp] theorem toDs_n : toDs e [] = some [] := id rfl
@[simp] theorem toDs_c {r : R} {rs : List R} : toDs e (r :: rs) = (toD e r).bnd fun d => (toDs e rs).bnd fun ds => some (d :: ds) := id rfl
@[simp] theorem allD_n : allD [] = some [] := id rfl
@[simp] theorem allD_c {d : Dt} {rs : List R} : allD (.d d :: rs) = (allD rs).bnd fun ds => some (d :: ds) := id rfl
@[simp] theorem aN_e : aN e = some ([], e) := id rfl
@[simp] theorem aC_e {f : FV} {g : FA} : aC f g e = (f e).bnd fun p => (g p.2).bnd fun q => some (p.1 :: q.1, q.2) := id rfl
@[simp] theorem tupD_e {f : FA} : tupD f e = (f e).bnd fun q => (allD q.1).bnd fun ds => if ds.length ≤ 10000 then some (.tuple ds, q.2) else none := id rfl
@[simp] theorem lstD_e {f : FA} : lstD f e = (f e).bnd fun q => (allD q.1).bnd fun ds => if ds.length ≤ 10000 then some (.list ds, q.2) else none := id rfl
@[simp] theorem binD_e {g : Dt → Dt → Option Dt} {fa fb : FV} : binD g fa fb e = (fa e).bnd fun p => (fb p.2).bnd fun q => (toD q.2 p.1).bnd fun x => (toD q.2 q.1).bnd fun y => (g x y).bnd fun d => some (d, q.2) := id rfl
@[simp] theorem callD_e {g : List Dt → Option Dt} {f : FA} : callD g f e = (f e).bnd fun q => (toDs q.2 q.1).bnd fun ds => (g ds).bnd fun d => some (d, q.2) := id rfl
@[simp] theorem vT_e {f : FD} : vT f e = (f e).bnd fun p => match p.1 with
  | .bool b => some (b, p.2)
  | _ => none := id rfl
@[simp] theorem isN_e {f : FV} : isN f e = (f e).bnd fun p => (toD p.2 p.1).bnd fun x => some (.bool (noneD x), p.2) := id rfl
@[simp] theorem notN_e {f : FV} : notN f e = (f e).bnd fun p => (toD p.2 p.1).bnd fun x => some (.bool (!noneD x), p.2) := id rfl
@[simp] theorem andT_e {f g : FT} : andT f g e = (f e).bnd fun p => if p.1 = true then g p.2 else some (false, p.2) := id rfl
@[simp] theorem orT_e {f g : FT} : orT f g e = (f e).bnd fun p => if p.1 = true then some (true, p.2) else g p.2 := id rfl
@[simp] theorem notT_e {f : FT} : notT f e = (f e).bnd fun p => some (!p.1, p.2) := id rfl
def andK (d : Dt) (e : En) (y : Option (Dt × En)) : Option (Dt × En) := match d with
  | .bool true => y
  | .bool false => some (.bool false, e)
  | _ => none
def orK (d : Dt) (e : En) (y : Option (Dt × En)) : Option (Dt × En) := match d with
  | .bool true => some (.bool true, e)
  | .bool false => y
  | _ => none
@[simp] theorem andK_t {y : Option (Dt × En)} : andK (.bool true) e y = y := id rfl
@[simp] theorem andK_f {y : Option (Dt × En)} : andK (.bool false) e y = some (.bool false, e) := id rfl
@[simp] theorem andK_b {b c : Bool} : andK (.bool b) e (some (.bool c, e)) = some (.bool (b && c), e) := by cases b <;> rfl
@[simp] theorem orK_t {y : Option (Dt × En)} : orK (.bool true) e y = some (.bool true, e) := id rfl
@[simp] theorem orK_f {y : Option (Dt × En)} : orK (.bool false) e y = y := id rfl
@[simp] theorem orK_b {b c : Bool} : orK (.bool b) e (some (.bool c, e)) = some (.bool (b || c), e) := by cases b <;> rfl
@[simp] theorem andV_e {f g : FD} : andV f g e = (f e).bnd fun p => andK p.1 p.2 (g p.2) := id rfl
@[simp] theorem orV_e {f g : FD} : orV f g e = (f e).bnd fun p => orK p.1 p.2 (g p.2) := id rfl
@[simp] theorem notV_e {f : FD} : notV f e = (f e).bnd fun p => match p.1 with
  | .bool b => some (.bool (!b), p.2)
  | _ => none := id rfl
@[simp] theorem ifD_e {t : FT} {f g : FD} : ifD t f g e = (t e).bnd fun p => if p.1 = true then f p.2 else g p.2 := id rfl
@[simp] theorem chD_e {g g' : Dt → Dt → Option Dt} {fa fb fc : FV} : chD g g' fa fb fc e = (fa e).bnd fun p => (fb p.2).bnd fun q => (toD q.2 p.1).bnd fun x => (toD q.2 q.1).bnd fun y => (g x y).bnd fun d => andK d q.2 ((fc q.2).bnd fun r => (toD r.2 q.1).bnd fun y' => (toD r.2 r.1).bnd fun z => (g' y' z).bnd fun d' => some (d', r.2)) := id rfl
@[simp] theorem oN_e : oN e = some (none, e) := id rfl
@[simp] theorem oS_e {f : FD} : oS f e = (f e).bnd fun p => match p.1 with
  | .int i => some (some i, p.2)
  | _ => none := id rfl
@[simp] theorem slD_e {fa : FV} {fl fh : FO} : slD fa fl fh e = (fa e).bnd fun p => (fl p.2).bnd fun q => (fh q.2).bnd fun r => (toD r.2 p.1).bnd fun x => (slG x q.1 r.1).bnd fun d => some (d, r.2) := id rfl
@[simp] theorem skS_e : skS e = some (.nx e) := id rfl
@[simp] theorem sqS_e {f g : FS} : sqS f g e = (f e).bnd fun o => match o with
  | .nx e' => g e'
  | o => some o := id rfl
@[simp] theorem ifS_e {t : FT} {f g : FS} : ifS t f g e = (t e).bnd fun p => if p.1 = true then f p.2 else g p.2 := id rfl
@[simp] theorem frzS_e {i : Nat} {f : FS} : frzS i f e = match e[i]? with
  | some (.own d) => f (e.set i (.dat d))
  | _ => f e := id rfl
@[simp] theorem rtS_e {f : FD} : rtS f e = (f e).bnd fun p => some (.rt p.1 p.2) := id rfl
@[simp] theorem rtN_e : rtN e = some (.rt .none e) := id rfl
@[simp] theorem exS_e {f : FV} : exS f e = (f e).bnd fun p => some (.nx p.2) := id rfl
@[simp] theorem bkS_e : bkS e = some (.bk e) := id rfl
@[simp] theorem ctS_e : ctS e = some (.ct e) := id rfl
@[simp] theorem neS_e : neS e = none := id rfl
@[simp] theorem asS_e {f : FD} {g : FG} : asS f g e = (f e).bnd fun p => (g p.1 p.2).bnd fun e' => some (.nx e') := id rfl
@[simp] theorem owS_e {i : Nat} {f : FD} : owS i f e = (f e).bnd fun p => if i < p.2.length then some (.nx (p.2.set i (.own p.1))) else none := id rfl
@[simp] theorem gN_e {i : Nat} {d : Dt} : gN i d e = some (e.set i (.dat d)) := id rfl
@[simp] theorem gsN_e : gsN [] e = some e := id rfl
@[simp] theorem gsC_e {g : FG} {gs : FGs} {d : Dt} {ds : List Dt} : gsC g gs (d :: ds) e = (g d e).bnd fun e' => gs ds e' := id rfl
@[simp] theorem gT_t {n : Nat} {gs : FGs} {ds : List Dt} : gT n gs (.tuple ds) e = if ds.length = n then gs ds e else none := id rfl
@[simp] theorem gT_l {n : Nat} {gs : FGs} {ds : List Dt} : gT n gs (.list ds) e = if ds.length = n then gs ds e else none := id rfl
@[simp] theorem seqI_e {f : FD} : seqI f e = (f e).bnd fun p => (seqD p.1).bnd fun ds => some (ds, p.2) := id rfl
@[simp] theorem seqD_l {ds : List Dt} : seqD (.list ds) = some ds := id rfl
@[simp] theorem seqD_t {ds : List Dt} : seqD (.tuple ds) = some ds := id rfl
@[simp] theorem rng1I_e {f : FA} : rng1I f e = (f e).bnd fun p => match p.1 with
  | [.d (.int n)] => if n ≤ 1000000 ∧ -1000000 ≤ n then some (rngD 0 n.toNat, p.2) else none
  | _ => none := id rfl
@[simp] theorem rng2I_e {f : FA} : rng2I f e = (f e).bnd fun p => match p.1 with
  | [.d (.int i), .d (.int j)] => if i ≤ 1000000 ∧ -1000000 ≤ i ∧ j ≤ 1000000 ∧ -1000000 ≤ j then some (rngD i (j - i).toNat, p.2) else none
  | _ => none := id rfl
@[simp] theorem zipI_e {f : FA} : zipI f e = (f e).bnd fun p => match p.1 with
  | [.d (.list a), .d (.list b)] => some (zipD a b, p.2)
  | [.d (.tuple a), .d (.tuple b)] => some (zipD a b, p.2)
  | _ => none := id rfl
@[simp] theorem enuI_e {f : FA} : enuI f e = (f e).bnd fun p => match p.1 with
  | [.d (.list a)] => some (enuD a 0, p.2)
  | [.d (.tuple a)] => some (enuD a 0, p.2)
  | _ => none := id rfl
@[simp] theorem frS_e {f : FI} {g : FG} {b : FS} : frS f g b e = (f e).bnd fun p => forF g b p.1 p.2 := id rfl
@[simp] theorem lcD_e {f : FI} {g : FG} {t : FT} {fe : FD} {vs : List Nat} : lcD f g t fe vs e = (f e).bnd fun p => if noOwn p.2 vs = true then (lcF g t fe vs p.1 (wipeE p.2 vs)).bnd fun r => some (.list r.1, backE p.2 r.2 vs) else none := id rfl
@[simp] theorem yesT_e : yesT e = some (true, e) := id rfl
@[simp] theorem cl0_e {G : FF} {f : FA} : cl0 G f e = (f e).bnd fun q => (toDs q.2 q.1).bnd fun ds => (G ds).bnd fun r => if r.2 = [] ∧ (q.1.all isDr = true ∨ isAt r.1 = true) then some (r.1, q.2) else none := id rfl
@[simp] theorem cl1_e {G : FF} {f : FA} : cl1 G f e = (f e).bnd fun q => match q.1 with
  | .o i :: rs => (toD q.2 (.o i)).bnd fun d0 => (allD rs).bnd fun ds => (G (d0 :: ds)).bnd fun r => match r.2 with
    | [d1] => some (r.1, q.2.set i (.own d1))
    | _ => none
  | _ => none := id rfl
@[simp] theorem clN_e {G : FF} {f : FA} : clN G f e = (f e).bnd fun q => (allD q.1).bnd fun ds => (G ds).bnd fun r => if r.2 = [] then some (r.1, q.2) else none := id rfl
@[simp] theorem isiD_e {p : Dt → Option Bool} {f : FV} : isiD p f e = (f e).bnd fun q => (toD q.2 q.1).bnd fun d => (p d).bnd fun b => some (.bool b, q.2) := id rfl
@[simp] theorem mN_e : mN e = some ([], e) := id rfl
@[simp] theorem mD_e {f : FD} {g : FM} : mD f g e = (f e).bnd fun p => (g p.2).bnd fun q => some (.d p.1 :: q.1, q.2) := id rfl
@[simp] theorem mF_e {f : FD} {g : FM} : mF f g e = (f e).bnd fun p => (g p.2).bnd fun q => some (.f p.1 :: q.1, q.2) := id rfl
@[simp] theorem setM_n : setM [] [] e = some e := id rfl
@[simp] theorem setM_d {i : Nat} {is : List Nat} {d : Dt} {xs : List Itm} : setM (i :: is) (.d d :: xs) e = (setM is xs e).bnd fun e' => some (e'.set i (.dat d)) := id rfl
@[simp] theorem setM_f {i : Nat} {is : List Nat} {d : Dt} {xs : List Itm} : setM (i :: is) (.f d :: xs) e = (setM is xs e).bnd fun e' => if i < e'.length then some (e'.set i (.own d)) else none := id rfl
@[simp] theorem parS_e {is : List Nat} {f : FM} : parS is f e = (f e).bnd fun p => (setM is p.1 p.2).bnd fun e' => some (.nx e') := id rfl
@[simp] theorem ownL_e {i : Nat} : ownL e i = match e[i]? with
  | some (.own (.list ds)) => some ds
  | _ => none := id rfl
@[simp] theorem appD_e {i : Nat} {f : FD} : appD i f e = (ownL e i).bnd fun _ => (f e).bnd fun p => (ownL p.2 i).bnd fun ds => if ds.length < sizeLine then some (.none, p.2.set i (.own (.list (ds ++ [p.1])))) else none := id rfl
@[simp] theorem popD_e {i : Nat} : popD i e = (ownL e i).bnd fun ds => match ds.getLast? with
  | some d => some (d, e.set i (.own (.list ds.dropLast)))
  | none => none := id rfl
@[simp] theorem stS_e {i : Nat} {f fk : FD} : stS i f fk e = (ownL e i).bnd fun _ => (f e).bnd fun p => (fk p.2).bnd fun q => match q.1 with
  | .int j => (ownL q.2 i).bnd fun ds => (ixN ds.length j).bnd fun n => some (.nx (q.2.set i (.own (.list (ds.set n p.1)))))
  | _ => none := id rfl
@[simp] theorem dispD_e {fs : List (FD × FD)} : dispD fs e = (pairsF fs e).bnd fun q => if keysOk q.1 = true ∧ q.1.length ≤ 15 ∧ q.1 ≠ [] then some (.dict (mergeP [] q.1), q.2) else none := id rfl
@[simp] theorem pairs_n : pairsF [] e = some ([], e) := id rfl
@[simp] theorem pairs_c {fk fv : FD} {r : List (FD × FD)} : pairsF ((fk, fv) :: r) e = (fk e).bnd fun p => (fv p.2).bnd fun q => (pairsF r q.2).bnd fun s => some ((p.1, q.1) :: s.1, s.2) := id rfl
@[simp] theorem get2D_e {fd : FV} {fk fx : FD} : get2D fd fk fx e = (fd e).bnd fun p => (toD p.2 p.1).bnd fun d0 => (getG d0 (.int 0)).bnd fun _ => (fk p.2).bnd fun q => (fx q.2).bnd fun r => (toD r.2 p.1).bnd fun d => (getG d q.1).bnd fun o => some (o.getD r.1, r.2) := id rfl
@[simp] theorem runF_e {m n : Nat} {f : FS} {ds : List Dt} : runF m n f ds = (f (iniE m n ds)).bnd fun o => match o with
  | .rt d e => (ownsE m e).bnd fun ms => some (d, ms)
  | .nx e => (ownsE m e).bnd fun ms => some (.none, ms)
  | _ => none := id rfl
@[simp] theorem runP_e {m p n : Nat} {f : FS} {ds : List Dt} : runP m p n f ds = if ds.length = p then runF m n f ds else none := id rfl
@[simp] theorem runN_e {p n : Nat} {g : FS} {f : FD} {ds : List Dt} : DL.runN p n g f ds = if ds.length = p then (g (iniE 0 n ds)).bnd fun o => match o with
  | .nx e => (f e).bnd fun q => some (q.1, [])
  | _ => none
  else none := id rfl
@[simp] theorem negD_e {f : FV} : negD f e = (f e).bnd fun p => match p.1 with
  | .d (.int i) => some (.int (-i), p.2)
  | _ => none := id rfl
/-! operators on data -/
@[simp] theorem add_i {i j : Int} : addG (.int i) (.int j) = some (.int (i + j)) := id rfl
@[simp] theorem add_l {a b : List Dt} : addG (.list a) (.list b) = if a.length + b.length ≤ sizeLine then some (.list (a ++ b)) else none := id rfl
@[simp] theorem add_t {a b : List Dt} : addG (.tuple a) (.tuple b) = if a.length + b.length ≤ sizeLine then some (.tuple (a ++ b)) else none := id rfl
@[simp] theorem sub_i {i j : Int} : subG (.int i) (.int j) = some (.int (i - j)) := id rfl
@[simp] theorem mul_i {i j : Int} : mulG (.int i) (.int j) = if (-(2 ^ 64) < i ∧ i < 2 ^ 64) ∨ (-(2 ^ 64) < j ∧ j < 2 ^ 64) then some (.int (i * j)) else none := id rfl
@[simp] theorem mul_l {a : List Dt} {k : Int} : mulG (.list a) (.int k) = if -(2 ^ 63) ≤ k ∧ k < 2 ^ 63 ∧ a.length * k.toNat ≤ sizeLine then some (.list (List.replicate k.toNat a).flatten) else none := id rfl
@[simp] theorem mul_t {a : List Dt} {k : Int} : mulG (.tuple a) (.int k) = if a ≠ [] ∧ 2 ≤ k ∧ k ≤ 1000 ∧ a.length ≤ 1000 then some (.tuple (List.replicate k.toNat a).flatten) else none := id rfl
@[simp] theorem fdiv_i {i j : Int} : fdivG (.int i) (.int j) = if 0 < j ∧ j < 1073741824 then some (.int (i / j)) else none := id rfl
@[simp] theorem mod_i {i j : Int} : modG (.int i) (.int j) = if 0 < j then some (.int (i % j)) else none := id rfl
@[simp] theorem pow_i {i j : Int} : powG (.int i) (.int j) = if 0 ≤ j ∧ j ≤ 1000000 ∧ i.natAbs < 2 ^ 64 then some (.int (i ^ j.toNat)) else none := id rfl
@[simp] theorem cmp_i {p : Int → Int → Bool} {i j : Int} : cmpG p (.int i) (.int j) = some (.bool (p i j)) := id rfl
@[simp] theorem ix_l {ds : List Dt} {i : Int} : ixG (.list ds) (.int i) = atI ds i := id rfl
@[simp] theorem ix_t {ds : List Dt} {i : Int} : ixG (.tuple ds) (.int i) = atI ds i := id rfl
@[simp] theorem ix_s {ds : List Dt} {i : Int} : ixG (.dict [(.none, .list ds)]) (.int i) = atI ds i := id rfl
@[simp] theorem sl_l {ds : List Dt} {lo hi : Option Int} : slG (.list ds) lo hi = some (.list (cutD ds lo hi)) := id rfl
@[simp] theorem sl_t {ds : List Dt} {lo hi : Option Int} : slG (.tuple ds) lo hi = some (.tuple (cutD ds lo hi)) := id rfl
@[simp] theorem len_l {ds : List Dt} : lenG [.list ds] = some (.int ds.length) := id rfl
@[simp] theorem len_t {ds : List Dt} : lenG [.tuple ds] = some (.int ds.length) := id rfl
@[simp] theorem len_s {ds : List Dt} : lenG [.dict [(.none, .list ds)]] = some (.int ds.length) := id rfl
@[simp] theorem abs_i {i : Int} : absG [.int i] = some (.int (if i < 0 then -i else i)) := id rfl
@[simp] theorem int_i {i : Int} : intG [.int i] = some (.int i) := id rfl
@[simp] theorem int_b {b : Bool} : intG [.bool b] = some (.int (if b then 1 else 0)) := id rfl
@[simp] theorem max_2 {i j : Int} : maxG [.int i, .int j] = some (.int (if j > i then j else i)) := id rfl
@[simp] theorem min_2 {i j : Int} : minG [.int i, .int j] = some (.int (if j < i then j else i)) := id rfl
@[simp] theorem any_l {ds : List Dt} : anyG [.list ds] = (boolsOf ds).bnd fun bs => some (.bool (bs.any id)) := id rfl
@[simp] theorem all_l {ds : List Dt} : allG [.list ds] = (boolsOf ds).bnd fun bs => some (.bool (bs.all id)) := id rfl
@[simp] theorem sum_l {ds : List Dt} : sumG [.list ds] = (intsOf ds).bnd fun is => some (.int is.sum) := id rfl
@[simp] theorem tup_l {ds : List Dt} : tupG [.list ds] = some (.tuple ds) := id rfl
@[simp] theorem tup_t {ds : List Dt} : tupG [.tuple ds] = some (.tuple ds) := id rfl
@[simp] theorem list_l {ds : List Dt} : listG [.list ds] = some (.list ds) := id rfl
@[simp] theorem list_t {ds : List Dt} : listG [.tuple ds] = some (.list ds) := id rfl
end Ev
end DL

set_option Elab.async false
set_option linter.all false
set_option maxRecDepth 100000
namespace DL
open PySem L2
namespace Ev
/-! nice data: no dict, nesting at most n, no row longer than L -/
def nice (L : Nat) : Nat → Dt → Bool
  | _, .none => true
  | _, .bool _ => true
  | _, .int _ => true
  | _, .str _ => true
  | n + 1, .list ds => ds.all (nice L n) && decide (ds.length ≤ L)
  | n + 1, .tuple ds => ds.all (nice L n) && decide (ds.length ≤ L)
  | _, _ => false
@[simp] theorem nice_none {L n : Nat} : nice L n .none = true := by cases n <;> rfl
@[simp] theorem nice_bool {L n : Nat} {b : Bool} : nice L n (.bool b) = true := by cases n <;> rfl
@[simp] theorem nice_int {L n : Nat} {b : Int} : nice L n (.int b) = true := by cases n <;> rfl
@[simp] theorem nice_str {L n : Nat} {b : Str} : nice L n (.str b) = true := by cases n <;> rfl
@[simp] theorem nice_dict {L n : Nat} {b : List (Dt × Dt)} : nice L n (.dict b) = false := by cases n <;> rfl
@[simp] theorem nice_list {L n : Nat} {ds : List Dt} : nice L (n + 1) (.list ds) = (ds.all (nice L n) && decide (ds.length ≤ L)) := rfl
@[simp] theorem nice_tuple {L n : Nat} {ds : List Dt} : nice L (n + 1) (.tuple ds) = (ds.all (nice L n) && decide (ds.length ≤ L)) := rfl
@[simp] theorem nice_list0 {L : Nat} {ds : List Dt} : nice L 0 (.list ds) = false := rfl
@[simp] theorem nice_tuple0 {L : Nat} {ds : List Dt} : nice L 0 (.tuple ds) = false := rfl
theorem nice_mono {L L' : Nat} (hL : L ≤ L') : ∀ {n n' : Nat} {d : Dt}, n ≤ n' → nice L n d = true → nice L' n' d = true
  | n, n', .none, _, _ => by simp
  | n, n', .bool _, _, _ => by simp
  | n, n', .int _, _, _ => by simp
  | n, n', .str _, _, _ => by simp
  | n, n', .dict _, _, h => by simp at h
  | 0, n', .list _, _, h => by simp at h
  | 0, n', .tuple _, _, h => by simp at h
  | n + 1, 0, _, hn, _ => by omega
  | n + 1, n' + 1, .list ds, hn, h => by
    simp at h ⊢
    exact ⟨fun x hx => nice_mono hL (by omega) (h.1 x hx), by omega⟩
  | n + 1, n' + 1, .tuple ds, hn, h => by
    simp at h ⊢
    exact ⟨fun x hx => nice_mono hL (by omega) (h.1 x hx), by omega⟩
theorem nice_pd {L : Nat} : ∀ {n : Nat} {d : Dt}, nice L n d = true → d.plain = true ∧ d.depth ≤ n := by
  intro n
  have all : ∀ {n : Nat} (ih : ∀ {d : Dt}, nice L n d = true → d.plain = true ∧ d.depth ≤ n) (ds : List Dt), (∀ x ∈ ds, nice L n x = true) → PyData.plainAll ds = true ∧ PyData.depthAll ds ≤ n := by
    intro n ih ds
    induction ds with
    | nil => intro _; simp [PyData.plainAll, PyData.depthAll]
    | cons d ds hd =>
      intro h
      have h1 := ih (h d (by simp))
      have h2 := hd fun x hx => h x (by simp [hx])
      simp [PyData.plainAll, PyData.depthAll, h1.1, h2.1]
      omega
  induction n with
  | zero =>
    intro d h
    cases d <;> simp [PyData.plain, PyData.depth] at h ⊢
  | succ n ih =>
    intro d h
    cases d with
    | list ds =>
      simp at h
      have := all ih ds h.1
      simp [PyData.plain, PyData.depth, this.1]
      omega
    | tuple ds =>
      simp at h
      have := all ih ds h.1
      simp [PyData.plain, PyData.depth, this.1]
      omega
    | dict _ => simp at h
    | none => simp [PyData.plain, PyData.depth]
    | bool _ => simp [PyData.plain, PyData.depth]
    | int _ => simp [PyData.plain, PyData.depth]
    | str _ => simp [PyData.plain, PyData.depth]
theorem nice_ok {L n : Nat} {d : Dt} (h : nice L n d = true) (hn : n ≤ 60) : okD d = true := by
  obtain ⟨h1, h2⟩ := nice_pd h
  simp [okD, h1]
  omega
@[simp] theorem ok_none : okD .none = true := by simp [okD, PyData.plain, PyData.depth]
@[simp] theorem ok_bool {b : Bool} : okD (.bool b) = true := by simp [okD, PyData.plain, PyData.depth]
@[simp] theorem ok_int {i : Int} : okD (.int i) = true := by simp [okD, PyData.plain, PyData.depth]
@[simp] theorem ok_str {i : Str} : okD (.str i) = true := by simp [okD, PyData.plain, PyData.depth]
def okN (n : Nat) (d : Dt) : Bool := d.plain && decide (d.depth ≤ n)
theorem okN_all {n : Nat} : ∀ ds : List Dt, (PyData.plainAll ds && decide (PyData.depthAll ds ≤ n)) = ds.all (okN n)
  | [] => by simp [PyData.plainAll, PyData.depthAll]
  | d :: ds => by
    rw [List.all_cons, ← okN_all ds]
    simp only [PyData.plainAll, PyData.depthAll, okN, Nat.max_le, Bool.decide_and]
    cases d.plain <;> cases PyData.plainAll ds <;> simp
@[simp] theorem okN_none {n : Nat} : okN n .none = true := by simp [okN, PyData.plain, PyData.depth]
@[simp] theorem okN_bool {n : Nat} {b : Bool} : okN n (.bool b) = true := by simp [okN, PyData.plain, PyData.depth]
@[simp] theorem okN_int {n : Nat} {i : Int} : okN n (.int i) = true := by simp [okN, PyData.plain, PyData.depth]
@[simp] theorem okN_str {n : Nat} {i : Str} : okN n (.str i) = true := by simp [okN, PyData.plain, PyData.depth]
@[simp] theorem okN_list {n : Nat} {ds : List Dt} : okN (n + 1) (.list ds) = ds.all (okN n) := by
  rw [← okN_all]; simp only [okN, PyData.plain, PyData.depth, Nat.add_le_add_iff_right]
@[simp] theorem okN_tuple {n : Nat} {ds : List Dt} : okN (n + 1) (.tuple ds) = ds.all (okN n) := by
  rw [← okN_all]; simp only [okN, PyData.plain, PyData.depth, Nat.add_le_add_iff_right]
@[simp] theorem ok_list {ds : List Dt} : okD (.list ds) = ds.all (okN 59) := okN_list (n := 59)
@[simp] theorem ok_tuple {ds : List Dt} : okD (.tuple ds) = ds.all (okN 59) := okN_tuple (n := 59)
theorem nice_okN {L n m : Nat} {d : Dt} (h : nice L n d = true) (hn : n ≤ m) : okN m d = true := by
  obtain ⟨h1, h2⟩ := nice_pd h
  simp [okN, h1]
  omega
@[simp] theorem eq_g {x y : Dt} : eqG x y = if okD x = true ∧ okD y = true then some (.bool (PyData.eqv x y)) else none := rfl
@[simp] theorem ne_g {x y : Dt} : neG x y = if okD x = true ∧ okD y = true then some (.bool (!PyData.eqv x y)) else none := rfl
@[simp] theorem in_l {d : Dt} {ds : List Dt} : inG d (.list ds) = if okD d = true ∧ okD (.list ds) = true then some (.bool (ds.any fun z => PyData.eqv z d)) else none := by
  simp only [inG, inL]; split <;> rfl
@[simp] theorem in_t {d : Dt} {ds : List Dt} : inG d (.tuple ds) = if okD d = true ∧ okD (.list ds) = true then some (.bool (ds.any fun z => PyData.eqv z d)) else none := by
  simp only [inG, inL]; split <;> rfl
@[simp] theorem eqv_ii {i j : Int} : PyData.eqv (.int i) (.int j) = (i == j) := by simp [PyData.eqv]
@[simp] theorem eqv_ss {i j : Str} : PyData.eqv (.str i) (.str j) = (i == j) := by simp [PyData.eqv]
@[simp] theorem eqv_bb {i j : Bool} : PyData.eqv (.bool i) (.bool j) = (i == j) := by simp [PyData.eqv]
@[simp] theorem eqv_nn : PyData.eqv .none .none = true := by simp [PyData.eqv]
@[simp] theorem eqv_tt {i j : List Dt} : PyData.eqv (.tuple i) (.tuple j) = PyData.eqvAll i j := by simp [PyData.eqv]
@[simp] theorem eqv_ll {i j : List Dt} : PyData.eqv (.list i) (.list j) = PyData.eqvAll i j := by simp [PyData.eqv]
@[simp] theorem eqa_nn : PyData.eqvAll [] [] = true := by simp [PyData.eqvAll]
@[simp] theorem eqa_nc {x : Dt} {xs : List Dt} : PyData.eqvAll [] (x :: xs) = false := by simp [PyData.eqvAll]
@[simp] theorem eqa_cn {x : Dt} {xs : List Dt} : PyData.eqvAll (x :: xs) [] = false := by simp [PyData.eqvAll]
@[simp] theorem eqa_cc {x y : Dt} {xs ys : List Dt} : PyData.eqvAll (x :: xs) (y :: ys) = (PyData.eqv x y && PyData.eqvAll xs ys) := by simp [PyData.eqvAll]
@[simp] theorem ite_d {c : Prop} [Decidable c] {x y : Dt} {e : En} : (if c then some (x, e) else some (y, e)) = some (if c then x else y, e) := by split <;> rfl
@[simp] theorem ite_b {c : Prop} [Decidable c] {x y : Bool} {e : En} : (if c then some (x, e) else some (y, e)) = some (if c then x else y, e) := by split <;> rfl
@[simp] theorem ite_db {c : Prop} [Decidable c] {x y : Bool} : (if c then PyData.bool x else PyData.bool y) = .bool (if c then x else y) := by split <;> rfl
@[simp] theorem ite_di {c : Prop} [Decidable c] {x y : Int} : (if c then PyData.int x else PyData.int y) = .int (if c then x else y) := by split <;> rfl
@[simp] theorem ite_rt {c : Prop} [Decidable c] {x y : Dt} {e : En} : (if c then some (Out.rt x e) else some (Out.rt y e)) = some (Out.rt (if c then x else y) e) := by split <;> rfl
theorem lcF_n {g : FG} {t : FT} {fe : FD} {vs : List Nat} {e : En} : lcF g t fe vs [] e = some ([], e) := id rfl
theorem lcF_c {g : FG} {t : FT} {fe : FD} {vs : List Nat} {d : Dt} {ds : List Dt} {e : En} : lcF g t fe vs (d :: ds) e = (g d e).bnd fun e1 => (t e1).bnd fun p => if p.1 = true then
      (fe p.2).bnd fun q => if noOwn q.2 vs = true then (lcF g t fe vs ds (wipeE q.2 vs)).bnd fun r => some (q.1 :: r.1, r.2) else none
    else if noOwn p.2 vs = true then lcF g t fe vs ds (wipeE p.2 vs) else none := id rfl
theorem forF_n {g : FG} {b : FS} {e : En} : forF g b [] e = some (.nx e) := id rfl
theorem forF_c {g : FG} {b : FS} {d : Dt} {ds : List Dt} {e : En} : forF g b (d :: ds) e = (g d e).bnd fun e1 => (b e1).bnd fun o => match o with
    | .nx e2 => forF g b ds e2
    | .ct e2 => forF g b ds e2
    | .bk e2 => some (.nx e2)
    | .rt d e2 => some (.rt d e2) := id rfl
/-- texts, by what they are written as -/
theorem ofS_eq {a b : String} : (Str.ofString a == Str.ofString b) = decide (a = b) := by
  by_cases h : a = b
  · subst h; simp
  · simp only [h, decide_false]
    rw [beq_eq_false_iff_ne]
    intro h'
    rw [Str.ofString_eq_toList, Str.ofString_eq_toList] at h'
    injection h' with h'
    have h' := congrArg Array.toList h'
    simp at h'
    have inj : ∀ (x y : List Char), x.map Char.toNat = y.map Char.toNat → x = y := by
      intro x
      induction x with
      | nil => intro y hy; cases y <;> simp at hy ⊢
      | cons c cs ih =>
        intro y hy
        cases y with
        | nil => simp at hy
        | cons d ds =>
          simp at hy
          rw [ih ds hy.2]
          congr 1
          exact Char.ext (UInt32.toNat_inj.mp hy.1)
    exact h (String.ext (inj _ _ h'))
@[simp] theorem ofS_eqs {a b : String} : (Str.ofString a = Str.ofString b) = (a = b) := by
  have h := ofS_eq (a := a) (b := b)
  rw [Bool.eq_iff_iff] at h
  simpa using h
/-! items -/
theorem atI_mem {α : Type} {xs : List α} {i : Int} (h0 : 0 ≤ i) (h1 : i < xs.length) : ∃ x, x ∈ xs ∧ atI xs i = some x := by
  unfold atI ixN
  rw [if_pos h0, if_pos h1]
  have hl : i.toNat < xs.length := by omega
  exact ⟨xs[i.toNat], List.getElem_mem hl, by simp [hl]⟩
@[simp] theorem atI_nat {α : Type} {xs : List α} {i : Nat} : atI xs (i : Int) = xs[i]? := by
  unfold atI ixN
  simp only [Int.natCast_nonneg, if_true, Int.toNat_natCast]
  by_cases h : i < xs.length
  · simp [h]
  · simp [h]
@[simp] theorem atI_0 {α : Type} {xs : List α} : atI xs 0 = xs[0]? := atI_nat (i := 0)
@[simp] theorem atI_lit {α : Type} {xs : List α} {i : Nat} : atI xs (no_index (OfNat.ofNat i) : Int) = xs[i]? := atI_nat (i := i)
@[simp] theorem atI_1 {α : Type} {xs : List α} : atI xs 1 = xs[1]? := atI_nat (i := 1)
/-! loops -/
theorem forF_inv {g : FG} {b : FS} (P : En → Prop) : ∀ {ds : List Dt} {e : En}, (∀ d ∈ ds, ∀ e, P e → ∃ e1 e2, g d e = some e1 ∧ b e1 = some (.nx e2) ∧ P e2) → P e → ∃ e', forF g b ds e = some (.nx e') ∧ P e'
  | [], e, _, h => ⟨e, rfl, h⟩
  | d :: ds, e, k, h => by
    obtain ⟨e1, e2, h1, h2, h3⟩ := k d (by simp) e h
    obtain ⟨e', h4, h5⟩ := forF_inv P (ds := ds) (e := e2) (fun d hd => k d (by simp [hd])) h3
    exact ⟨e', by simp [forF, h1, h2, h4], h5⟩
theorem lcF_inv {g : FG} {t : FT} {fe : FD} {vs : List Nat} (P : En → Prop) (Q : Dt → Prop) : ∀ {ds : List Dt} {e : En},
    (∀ d ∈ ds, ∀ e, P e → ∃ e1 b e2, g d e = some e1 ∧ t e1 = some (b, e2) ∧ ((b = true ∧ ∃ x e3, fe e2 = some (x, e3) ∧ noOwn e3 vs = true ∧ P (wipeE e3 vs) ∧ Q x) ∨ (b = false ∧ noOwn e2 vs = true ∧ P (wipeE e2 vs)))) →
    P e → ∃ xs e', lcF g t fe vs ds e = some (xs, e') ∧ P e' ∧ (∀ x ∈ xs, Q x) ∧ xs.length ≤ ds.length
  | [], e, _, h => ⟨[], e, rfl, h, by simp, by simp⟩
  | d :: ds, e, k, h => by
    obtain ⟨e1, b, e2, h1, h2, h3⟩ := k d (by simp) e h
    rcases h3 with ⟨rfl, x, e3, h3, h4, h5, h6⟩ | ⟨rfl, h3, h4⟩
    · obtain ⟨xs, e', h7, h8, h9, h10⟩ := lcF_inv P Q (ds := ds) (e := wipeE e3 vs) (fun d hd => k d (by simp [hd])) h5
      exact ⟨x :: xs, e', by simp [lcF, h1, h2, h3, h4, h7], h8, by simpa using ⟨h6, h9⟩, by simp; omega⟩
    · obtain ⟨xs, e', h7, h8, h9, h10⟩ := lcF_inv P Q (ds := ds) (e := wipeE e2 vs) (fun d hd => k d (by simp [hd])) h4
      exact ⟨xs, e', by simp [lcF, h1, h2, h3, h7], h8, h9, by simp; omega⟩
theorem lcF_pure {g : FG} {t : FT} {fe : FD} {vs : List Nat} (p : Dt → Bool) (h : Dt → Dt) {e : En} : ∀ {ds : List Dt},
    (∀ d ∈ ds, ∃ e1, g d e = some e1 ∧ t e1 = some (p d, e1) ∧ (p d = true → fe e1 = some (h d, e1)) ∧ noOwn e1 vs = true ∧ wipeE e1 vs = e) →
    lcF g t fe vs ds e = some ((ds.filter p).map h, e)
  | [], _ => rfl
  | d :: ds, k => by
    obtain ⟨e1, h1, h2, h3, h4, h5⟩ := k d (by simp)
    have ih := lcF_pure p h (ds := ds) (e := e) fun d hd => k d (by simp [hd])
    by_cases hp : p d = true
    · simp [lcF, h1, h2, h3 hp, h4, h5, ih, hp]
    · simp at hp
      simp [lcF, h1, h2, h4, h5, ih, hp]
/-! slices -/
theorem cut_to {α : Type} {xs : List α} {i : Int} (h0 : 0 ≤ i) : cutD xs none (some i) = xs.take i.toNat := by
  have : ¬ i < 0 := by omega
  simp [cutD, HT.sIx, this]
theorem cut_from {α : Type} {xs : List α} {i : Int} (h0 : 0 ≤ i) : cutD xs (some i) none = xs.drop i.toNat := by
  have : ¬ i < 0 := by omega
  simp [cutD, HT.sIx, this]
  by_cases hl : i.toNat ≤ xs.length
  · rw [Nat.min_eq_left hl]
    rw [List.take_of_length_le (by simp)]
  · rw [Nat.min_eq_right (by omega), List.drop_eq_nil_of_le (by omega), List.drop_eq_nil_of_le (by omega)]
    simp
theorem cut_mem {α : Type} {xs : List α} {lo hi : Option Int} {x : α} (h : x ∈ cutD xs lo hi) : x ∈ xs := List.mem_of_mem_drop (List.mem_of_mem_take h)
theorem cut_len {α : Type} {xs : List α} {lo hi : Option Int} : (cutD xs lo hi).length ≤ xs.length := by
  simp [cutD]
  omega
end Ev
end DL

set_option Elab.async false
set_option linter.all false
set_option maxRecDepth 100000
namespace DL
open PySem L2
namespace Ev
variable {e : En}
/-! dicts with nested keys, evaluated -/
@[simp] theorem newD_e : newD e = some (.dict [], e) := id rfl
@[simp] theorem dispN_e {fk fv : FD} : dispN fk fv e = (fk e).bnd fun p => (fv p.2).bnd fun q => if isTupD p.1 = true ∧ okKey p.1 = true then some (.dict [(p.1, q.1)], q.2) else none := id rfl
@[simp] theorem ownD_e {i : Nat} : ownD e i = match e[i]? with
  | some (.own (.dict ps)) => some ps
  | _ => none := id rfl
@[simp] theorem stN_e {i : Nat} {f fk : FD} : stN i f fk e = (ownD e i).bnd fun _ => (f e).bnd fun p => (fk p.2).bnd fun q => (ownD q.2 i).bnd fun ps =>
  if keysN ps = true ∧ isTupD q.1 = true ∧ okKey q.1 = true ∧ ps.length < sizeLine then some (.nx (q.2.set i (.own (.dict (putNd ps q.1 p.1))))) else none := id rfl
@[simp] theorem stK_e {i : Nat} {f fk : FD} : stK i f fk e = (ownD e i).bnd fun _ => (f e).bnd fun p => (fk p.2).bnd fun q => (ownD q.2 i).bnd fun ps =>
  if keysOk ps = true ∧ (keyOf q.1).isSome = true ∧ ps.length < sizeLine then some (.nx (q.2.set i (.own (.dict (putP ps q.1 p.1))))) else none := id rfl
@[simp] theorem dI_e {sel : Dt → Option (List Dt)} {f : FD} : dI sel f e = (f e).bnd fun p => (sel p.1).bnd fun ds => some (ds, p.2) := id rfl
@[simp] theorem dkeys_e {ps : List (Dt × Dt)} : dkeys (.dict ps) = if keysN ps = true then some (ps.map (·.1)) else none := id rfl
@[simp] theorem dvals_e {ps : List (Dt × Dt)} : dvals (.dict ps) = if keysN ps = true then some (ps.map (·.2)) else none := id rfl
@[simp] theorem dits_e {ps : List (Dt × Dt)} : dits (.dict ps) = if keysN ps = true then some (ps.map fun p => .tuple [p.1, p.2]) else none := id rfl
@[simp] theorem lenND_e {ps : List (Dt × Dt)} : lenND [.dict ps] = if keysN ps = true then some (.int ps.length) else none := by
  show ((if keysN ps = true then some (ps.map (·.1)) else none).bind fun ks => some (PyData.int ks.length)) = _
  split <;> simp
@[simp] theorem listND_e {ps : List (Dt × Dt)} : listND [.dict ps] = if keysN ps = true then some (.list (ps.map (·.1))) else none := by
  show ((if keysN ps = true then some (ps.map (·.1)) else none).bind fun ks => some (PyData.list ks)) = _
  split <;> simp
@[simp] theorem sortKD_e {ps : List (Dt × Dt)} : sortKD [.dict ps] = (keyInts ps).bnd fun is => if is.length < 64 ∧ is ≠ [] then some (.list ((sortI is).map .int)) else none := id rfl
@[simp] theorem nget1D_e {fd : FV} {fk : FD} : nget1D fd fk e = (fd e).bnd fun p => (toD p.2 p.1).bnd fun d0 => if isDicN d0 = true then (fk p.2).bnd fun q => (toD q.2 p.1).bnd fun d => (getNG d q.1).bnd fun o => some (o.getD .none, q.2) else none := id rfl
@[simp] theorem nget2D_e {fd : FV} {fk fx : FD} : nget2D fd fk fx e = (fd e).bnd fun p => (toD p.2 p.1).bnd fun d0 => if isDicN d0 = true then (fk p.2).bnd fun q => (fx q.2).bnd fun r => (toD r.2 p.1).bnd fun d => (getNG d q.1).bnd fun o => some (o.getD r.1, r.2) else none := id rfl
@[simp] theorem isDicN_e {ps : List (Dt × Dt)} : isDicN (.dict ps) = keysN ps := id rfl
@[simp] theorem getNG_e {ps : List (Dt × Dt)} {k : Dt} : getNG (.dict ps) k = if keysN ps = true ∧ isTupD k = true ∧ okKey k = true then some (getNd ps k) else none := id rfl
@[simp] theorem in_d {x : Dt} {ps : List (Dt × Dt)} : inG x (.dict ps) = if keysN ps = true ∧ isTupD x = true ∧ okKey x = true then some (.bool (getNd ps x).isSome) else none := id rfl
@[simp] theorem nin_d {x : Dt} {ps : List (Dt × Dt)} : ninG x (.dict ps) = if keysN ps = true ∧ isTupD x = true ∧ okKey x = true then some (.bool (!(getNd ps x).isSome)) else none := id rfl
@[simp] theorem ix_d {ps : List (Dt × Dt)} {ks : List Dt} : ixG (.dict ps) (.tuple ks) = if keysN ps = true ∧ okKey (.tuple ks) = true then getNd ps (.tuple ks) else none := by
  show (if keysN ps = true ∧ isTupD (.tuple ks) = true ∧ okKey (.tuple ks) = true then _ else _) = _
  simp only [isTupD, true_and]
theorem ix_dn {ps : List (Dt × Dt)} {k : Dt} (h : isTupD k = true) : ixG (.dict ps) k = if keysN ps = true ∧ okKey k = true then getNd ps k else none := by
  cases k with
  | tuple ks => exact ix_d
  | _ => cases h
@[simp] theorem tk_n : toKey .none = some .none := by simp [toKey]
@[simp] theorem tk_i {i : Int} : toKey (.int i) = some (.num i) := by simp [toKey]
@[simp] theorem tk_b {b : Bool} : toKey (.bool b) = some (.num (if b = true then 1 else 0)) := by simp [toKey]
@[simp] theorem tk_s {x : Str} : toKey (.str x) = some (.text x) := by simp [toKey]
@[simp] theorem tk_t {xs : List Dt} : toKey (.tuple xs) = (toKeys xs).map .tup := by simp [toKey]
@[simp] theorem tks_n : toKeys [] = some [] := by simp [toKeys]
theorem tks_c {x : Dt} {xs : List Dt} {k : NestedKey} {ks : List NestedKey} (h : toKey x = some k) (h' : toKeys xs = some ks) : toKeys (x :: xs) = some (k :: ks) := by
  unfold toKeys
  rw [h, h']
theorem tks_map {α : Type} {f : α → Dt} {g : α → NestedKey} (h : ∀ a, toKey (f a) = some (g a)) : ∀ xs : List α, toKeys (xs.map f) = some (xs.map g)
  | [] => tks_n
  | x :: xs => tks_c (h x) (tks_map h xs)
/-! while, for -/
theorem wh_done {t : FT} {b : FS} {e e1 : En} (h : t e = some (false, e1)) : whN t b 1 e = some (.nx e1) := by
  unfold whN
  rw [h]
  rfl
theorem wh_turn {t : FT} {b : FS} {n : Nat} {e e1 e2 : En} {o : Out} (h : t e = some (true, e1)) (hb : b e1 = some (.nx e2)) (hn : whN t b n e2 = some o) : whN t b (n + 1) e = some o := by
  unfold whN
  simp only [h, Option.bind_some, if_true, hb]
  exact hn
/-- a for loop over what stands for α, its state in β -/
theorem for_fold {α β : Type} {g : FG} {b : FS} (D : α → Dt) (E : β → En) (st : β → α → β) (P : List α → β → Prop) : ∀ {xs : List α} {s : β}, P xs s →
    (∀ x xs s, P (x :: xs) s → ∃ e1, g (D x) (E s) = some e1 ∧ b e1 = some (.nx (E (st s x))) ∧ P xs (st s x)) → forF g b (xs.map D) (E s) = some (.nx (E (xs.foldl st s))) ∧ P [] (xs.foldl st s)
  | [], s, h, _ => ⟨rfl, h⟩
  | x :: xs, s, h, k => by
    obtain ⟨e1, h1, h2, h3⟩ := k x xs s h
    obtain ⟨i1, i2⟩ := for_fold D E st P (xs := xs) h3 k
    refine ⟨?_, i2⟩
    simp only [List.map_cons, List.foldl_cons]
    rw [forF_c, h1]
    simp only [bnd_s, h2]
    exact i1
/-- .. by what holds of the names -/
theorem for_rel {α : Type} {g : FG} {b : FS} (D : α → Dt) (P : List α → En → Prop) : ∀ {xs : List α} {e : En}, P xs e →
    (∀ x xs e, P (x :: xs) e → ∃ e1 e2, g (D x) e = some e1 ∧ b e1 = some (.nx e2) ∧ P xs e2) → ∃ e', forF g b (xs.map D) e = some (.nx e') ∧ P [] e'
  | [], e, h, _ => ⟨e, rfl, h⟩
  | x :: xs, e, h, k => by
    obtain ⟨e1, e2, h1, h2, h3⟩ := k x xs e h
    obtain ⟨e', i1, i2⟩ := for_rel D P (xs := xs) h3 k
    refine ⟨e', ?_, i2⟩
    rw [List.map_cons, forF_c, h1]
    simp only [bnd_s, h2]
    exact i1
/-- a for loop that returns at the first one of its kind -/
theorem for_find {α : Type} {g : FG} {b : FS} (D : α → Dt) (P : En → Prop) (f : α → Option Dt) : ∀ {xs : List α} {e : En}, P e →
    (∀ x ∈ xs, ∀ e, P e → ∃ e1, g (D x) e = some e1 ∧ ((f x = none ∧ ∃ e2, b e1 = some (.nx e2) ∧ P e2) ∨ ∃ r e2, f x = some r ∧ b e1 = some (.rt r e2) ∧ P e2)) →
    (xs.findSome? f = none ∧ ∃ e', forF g b (xs.map D) e = some (.nx e') ∧ P e') ∨ ∃ r e', xs.findSome? f = some r ∧ forF g b (xs.map D) e = some (.rt r e') ∧ P e'
  | [], e, h, _ => .inl ⟨rfl, e, rfl, h⟩
  | x :: xs, e, h, k => by
    obtain ⟨e1, h1, h2⟩ := k x (by simp) e h
    rw [List.map_cons, forF_c, h1]
    simp only [bnd_s]
    rcases h2 with ⟨h2, e2, h3, h4⟩ | ⟨r, e2, h2, h3, h4⟩
    · rw [h3]
      simp only [bnd_s]
      rcases for_find D P f (xs := xs) h4 fun y hy => k y (by simp [hy]) with ⟨i1, e', i2, i3⟩ | ⟨r, e', i1, i2, i3⟩
      · exact .inl ⟨by rw [List.findSome?_cons, h2]; exact i1, e', i2, i3⟩
      · exact .inr ⟨r, e', by rw [List.findSome?_cons, h2]; exact i1, i2, i3⟩
    · rw [h3]
      simp only [bnd_s]
      exact .inr ⟨r, e2, by rw [List.findSome?_cons, h2], rfl, h4⟩
theorem lcF_on {α : Type} {g : FG} {t : FT} {fe : FD} {vs : List Nat} (D : α → Dt) (p : α → Bool) (h : α → Dt) {e : En} : ∀ {xs : List α},
    (∀ x ∈ xs, ∃ e1, g (D x) e = some e1 ∧ t e1 = some (p x, e1) ∧ (p x = true → fe e1 = some (h x, e1)) ∧ noOwn e1 vs = true ∧ wipeE e1 vs = e) →
    lcF g t fe vs (xs.map D) e = some ((xs.filter p).map h, e)
  | [], _ => rfl
  | d :: ds, k => by
    obtain ⟨e1, h1, h2, h3, h4, h5⟩ := k d (by simp)
    have ih := lcF_on D p h (xs := ds) (e := e) fun d hd => k d (by simp [hd])
    by_cases hp : p d = true
    · simp [lcF, h1, h2, h3 hp, h4, h5, ih, hp]
    · simp at hp
      simp [lcF, h1, h2, h4, h5, ih, hp]
end Ev
end DL

set_option Elab.async false
set_option linter.all false
set_option maxRecDepth 100000
namespace DL.Ev
open PySem L2 DL
variable {e : En}
@[simp] theorem dcD_e {f : FI} {g : FG} {t : FT} {m : FMk} {us : List Nat} : dcD f g t m us e = (f e).bnd fun p => if noOwn p.2 us = true then (dcL g t m us p.1 [] (wipeE p.2 us)).bnd fun r => some (.dict r.1, backE p.2 r.2 us) else none := id rfl
@[simp] theorem emN_e {fk fv : FD} {ps : List (Dt × Dt)} : emN fk fv ps e = (fk e).bnd fun p => (fv p.2).bnd fun q => if isTupD p.1 = true ∧ okKey p.1 = true ∧ ps.length < sizeLine then some (putNd ps p.1 q.1, q.2) else none := id rfl
@[simp] theorem inN_e {f1 : FI} {g1 : FG} {t1 : FT} {m : FMk} {us1 : List Nat} {ps : List (Dt × Dt)} : inN f1 g1 t1 m us1 ps e = (f1 e).bnd fun p => if noOwn p.2 us1 = true then dcL g1 t1 m us1 p.1 ps (wipeE p.2 us1) else none := id rfl
theorem dcL_n {g : FG} {t : FT} {m : FMk} {us : List Nat} {ps : List (Dt × Dt)} : dcL g t m us [] ps e = some (ps, e) := id rfl
theorem dcL_c {g : FG} {t : FT} {m : FMk} {us : List Nat} {d : Dt} {ds : List Dt} {ps : List (Dt × Dt)} : dcL g t m us (d :: ds) ps e = (g d e).bnd fun e1 => (t e1).bnd fun p => if p.1 = true then (m ps p.2).bnd fun q => if noOwn q.2 us = true then dcL g t m us ds q.1 (wipeE q.2 us) else none
      else if noOwn p.2 us = true then dcL g t m us ds ps (wipeE p.2 us) else none := id rfl
@[simp] theorem popND_e {i : Nat} {fk : FD} : popND i fk e = (ownD e i).bnd fun ps0 => if keysN ps0 = true then (fk e).bnd fun q => (ownD q.2 i).bnd fun ps => if keysN ps = true ∧ isTupD q.1 = true ∧ okKey q.1 = true then (getNd ps q.1).bnd fun d => some (d, q.2.set i (.own (.dict (dropNd ps q.1)))) else none else none := id rfl
theorem bor_of {f : FD} {d : Dt} (h : f (datE e) = some (d, datE e)) (k : flatI d = true) : borF f e = some (d, e) := by
  unfold borF
  rw [h]
  simp [k]
/-- a comprehension's loop by a relation -/
theorem dcl_rel {α : Type} {g : FG} {t : FT} {m : FMk} {us : List Nat} (D : α → Dt) (P : List α → List (Dt × Dt) → Prop) {e : En} : ∀ {xs : List α} {ps : List (Dt × Dt)}, P xs ps →
    (∀ x xs ps, P (x :: xs) ps → ∃ e1, g (D x) e = some e1 ∧ ((t e1 = some (false, e1) ∧ noOwn e1 us = true ∧ wipeE e1 us = e ∧ P xs ps) ∨ ∃ ps' e2, t e1 = some (true, e1) ∧ m ps e1 = some (ps', e2) ∧ noOwn e2 us = true ∧ wipeE e2 us = e ∧ P xs ps')) →
    ∃ ps', dcL g t m us (xs.map D) ps e = some (ps', e) ∧ P [] ps'
  | [], ps, h, _ => ⟨ps, rfl, h⟩
  | x :: xs, ps, h, k => by
    obtain ⟨e1, h1, h2⟩ := k x xs ps h
    rcases h2 with ⟨h2, h3, h4, h5⟩ | ⟨ps', e2, h2, h3, h4, h5, h6⟩
    · obtain ⟨q, q1, q2⟩ := dcl_rel D P (xs := xs) h5 k
      refine ⟨q, ?_, q2⟩
      rw [List.map_cons, dcL_c, h1]
      simp [h2, h3, h4, q1]
    · obtain ⟨q, q1, q2⟩ := dcl_rel D P (xs := xs) h6 k
      refine ⟨q, ?_, q2⟩
      rw [List.map_cons, dcL_c, h1]
      simp [h2, h3, h4, h5, q1]
/-- a loop by a relation, which may return -/
theorem for_relR {α : Type} {g : FG} {b : FS} (D : α → Dt) (P : List α → En → Prop) (Q : Dt → Prop) : ∀ {xs : List α} {e : En}, P xs e →
    (∀ x xs e, P (x :: xs) e → ∃ e1, g (D x) e = some e1 ∧ ((∃ e2, b e1 = some (.nx e2) ∧ P xs e2) ∨ ∃ r e2, b e1 = some (.rt r e2) ∧ Q r)) → (∃ e', forF g b (xs.map D) e = some (.nx e') ∧ P [] e') ∨ ∃ r e', forF g b (xs.map D) e = some (.rt r e') ∧ Q r
  | [], e, h, _ => .inl ⟨e, rfl, h⟩
  | x :: xs, e, h, k => by
    obtain ⟨e1, h1, h2⟩ := k x xs e h
    rcases h2 with ⟨e2, h2, h3⟩ | ⟨r, e2, h2, h3⟩
    · rcases for_relR D P Q (xs := xs) h3 k with ⟨e', i1, i2⟩ | ⟨r, e', i1, i2⟩
      · exact .inl ⟨e', by rw [List.map_cons, forF_c, h1, bnd_s, h2]; exact i1, i2⟩
      · exact .inr ⟨r, e', by rw [List.map_cons, forF_c, h1, bnd_s, h2]; exact i1, i2⟩
    · exact .inr ⟨r, e2, by rw [List.map_cons, forF_c, h1, bnd_s, h2]; rfl, h3⟩
end DL.Ev

set_option Elab.async false
set_option linter.all false
set_option maxRecDepth 100000
set_option maxHeartbeats 4000000
namespace Pf
open PySem L2 DL
def topS (i : Nat) : Stmt := PySem.Challenge.pw_chasedround_k05_whole_drawn_rounds.main.body.getD i (.Pass ⟨0, 0, 0, 0⟩)
def k_HOLDS : Dt := (.tuple [(.tuple [(.str "none"), (.int 0), (.int 0)]), (.tuple [(.str "gap"), (.int 1), (.int 6)]), (.tuple [(.str "half"), (.int 1), (.int 6)]), (.tuple [(.str "beat"), (.int 2), (.int 4)])])
def k_RIDES : Dt := (.str "rides")
def k_STAYS : Dt := (.str "stays")
def k_HELD : Dt := (.str "held")
def g_is_within : FS := (rtS (andV (isiD isInt (xV 0)) (andV (notV (isiD isBool (xV 0))) (chD leG leG (xV 1) (xV 0) (xV 2)))))
def F_is_within : FF := runP 0 3 3 g_is_within
def g_is_row : FS := (rtS (andV (isiD isTup (xV 0)) (binD eqG (vD (callD lenG (aC (xV 0) aN))) (xV 1))))
def F_is_row : FF := runP 0 2 2 g_is_row
def g_is_span : FS := (rtS (andV (cl0 F_is_row (aC (xV 0) (aC (vD (kD (.int 2))) aN))) (andV (cl0 F_is_within (aC (vD (binD ixG (xV 0) (vD (kD (.int 0))))) (aC (xV 1) (aC (xV 2) aN)))) (cl0 F_is_within (aC (vD (binD ixG (xV 0) (vD (kD (.int 1))))) (aC (vD (binD ixG (xV 0) (vD (kD (.int 0))))) (aC (xV 2) aN)))))))
def F_is_span : FF := runP 0 3 3 g_is_span
def g_is_hold : FS := (sqS (ifS (orT (notT (vT (cl0 F_is_row (aC (xV 0) (aC (vD (kD (.int 2))) aN))))) (notT (vT (isiD isStr (vD (binD ixG (xV 0) (vD (kD (.int 0))))))))) (rtS (kD (.bool false))) skS)
    (rtS (callD anyG (aC (vD (lcD (seqI (kD k_HOLDS)) (gT 3 (gsC (gN 1) (gsC (gN 2) (gsC (gN 3) gsN)))) yesT (andV (binD eqG (vD (binD ixG (xV 0) (vD (kD (.int 0))))) (xV 1)) (cl0 F_is_within (aC (vD (binD ixG (xV 0) (vD (kD (.int 1))))) (aC (xV 2) (aC (xV 3) aN))))) [1, 2, 3])) aN))))
def F_is_hold : FF := runP 0 1 4 g_is_hold
def g_is_plan : FS := (sqS (ifS (orT (notT (vT (cl0 F_is_row (aC (xV 0) (aC (vD (kD (.int 6))) aN))))) (orT (notT (vT (cl0 F_is_within (aC (vD (binD ixG (xV 0) (vD (kD (.int 0))))) (aC (vD (kD (.int 2))) (aC (vD (kD (.int 3))) aN)))))) (notT (vT (cl0 F_is_span (aC (vD (binD ixG (xV 0) (vD (kD (.int 1))))) (aC (vD (kD (.int 1))) (aC (vD (kD (.int 3))) aN)))))))) (rtS (kD (.bool false))) skS)
    (sqS (ifS (orT (notT (vT (cl0 F_is_row (aC (vD (binD ixG (xV 0) (vD (kD (.int 2))))) (aC (vD (kD (.int 3))) aN))))) (orT (notT (vT (cl0 F_is_span (aC (vD (slD (vD (binD ixG (xV 0) (vD (kD (.int 2))))) oN (oS (kD (.int 2))))) (aC (vD (kD (.int 1))) (aC (vD (kD (.int 3))) aN)))))) (notT (vT (cl0 F_is_within (aC (vD (binD ixG (vD (binD ixG (xV 0) (vD (kD (.int 2))))) (vD (kD (.int 2))))) (aC (vD (kD (.int 1))) (aC (vD (kD (.int 6))) aN)))))))) (rtS (kD (.bool false))) skS)
    (rtS (andV (cl0 F_is_within (aC (vD (binD ixG (xV 0) (vD (kD (.int 3))))) (aC (vD (kD (.int 0))) (aC (vD (kD (.int 2))) aN)))) (andV (cl0 F_is_hold (aC (vD (binD ixG (xV 0) (vD (kD (.int 4))))) aN)) (cl0 F_is_within (aC (vD (binD ixG (xV 0) (vD (kD (.int 5))))) (aC (vD (kD (.int 0))) (aC (vD (binD subG (vD (binD ixG (xV 0) (vD (kD (.int 0))))) (vD (kD (.int 1))))) aN)))))))))
def F_is_plan : FF := runP 0 1 1 g_is_plan
def g_look_at_plan : FS := (ifS (notT (vT (cl0 F_is_plan (aC (xV 0) aN)))) neS skS)
def F_look_at_plan : FF := runP 0 1 1 g_look_at_plan
def g_look_at_stop : FS := (ifS (notT (vT (cl0 F_is_within (aC (xV 1) (aC (vD (kD (.int 0))) (aC (vD (binD subG (vD (binD ixG (xV 0) (vD (kD (.int 0))))) (vD (kD (.int 1))))) aN)))))) neS skS)
def F_look_at_stop : FF := runP 0 2 2 g_look_at_stop
def g_look_at_number : FS := (ifS (notT (vT (cl0 F_is_within (aC (xV 0) (aC (vD (kD (.int 0))) (aC (vD (kD (.int 40))) aN)))))) neS skS)
def F_look_at_number : FF := runP 0 1 1 g_look_at_number
def g_begin_of : FS := (rtS (tupD (aC (vD (tupD (aC (vD (tupD (aC (vD (kD k_STAYS)) (aC (vD (kD (.int 0))) (aC (vD (kD (.int 1))) aN))))) (aC (vD (tupD (aC (vD (kD k_STAYS)) (aC (vD (binD ixG (xV 0) (vD (kD (.int 5))))) (aC (vD (kD (.int 1))) aN))))) aN)))) (aC (vD (binD mulG (vD (tupD (aC (vD (kD .none)) aN))) (vD (binD ixG (xV 0) (vD (kD (.int 0))))))) (aC (vD (kD (.int 0))) aN)))))
def F_begin_of : FF := runP 0 1 1 g_begin_of
def g_ways_of : FS := (sqS (ifS (vT (binD neG (vD (binD ixG (xV 1) (vD (kD (.int 0))))) (vD (kD k_RIDES)))) (rtS (lstD (aC (vD (kD (.bool false))) aN))) skS)
    (sqS (asS (binD ixG (xV 0) (vD (kD (.int 1)))) (gT 2 (gsC (gN 2) (gsC (gN 3) gsN))))
    (rtS (binD addG (vD (binD mulG (vD (lstD (aC (vD (kD (.bool false))) aN))) (vD (callD intG (aC (vD (binD ltG (vD (binD addG (vD (binD ixG (xV 1) (vD (kD (.int 2))))) (vD (kD (.int 1))))) (xV 3))) aN))))) (vD (binD mulG (vD (lstD (aC (vD (kD (.bool true))) aN))) (vD (callD intG (aC (vD (binD geG (vD (binD addG (vD (binD ixG (xV 1) (vD (kD (.int 2))))) (vD (kD (.int 1))))) (xV 2))) aN)))))))))
def F_ways_of : FF := runP 0 2 4 g_ways_of
def g_choices_of : FS := (sqS (asS (lcD (seqI (binD ixG (xV 1) (vD (kD (.int 0))))) (gN 4) yesT (cl0 F_ways_of (aC (xV 0) (aC (xV 4) aN))) [4]) (gT 2 (gsC (gN 2) (gsC (gN 3) gsN))))
    (rtS (lc2D (seqI (xD 2)) (gN 5) yesT (seqI (xD 3)) (gN 6) yesT (tupD (aC (xV 5) (aC (xV 6) aN))) [5, 6] [6])))
def F_choices_of : FF := runP 0 2 7 g_choices_of
def g_gap_of : FS := (sqS (ifS (vT (binD inG (xV 2) (xV 1))) (rtS (kD (.int 0))) skS)
    (rtS (ifD (vT (isN (vD (binD ixG (xV 0) (xV 2))))) (kD .none) (binD addG (vD (binD ixG (xV 0) (xV 2))) (vD (kD (.int 1)))))))
def F_gap_of : FF := runP 0 3 3 g_gap_of
def g_stay_of : FS := (sqS (asS (binD ixG (xV 0) (vD (kD (.int 2)))) (gT 3 (gsC (gN 4) (gsC (gN 5) (gsC (gN 6) gsN)))))
    (sqS (asS (ifD (vT (isN (xV 3))) (xD 4) (callD minG (aC (xV 5) (aC (vD (binD addG (xV 4) (vD (binD fdivG (xV 3) (xV 6))))) aN)))) (gN 7))
    (rtS (binD addG (xV 7) (vD (ifD (andT (vT (binD eqG (xV 1) (vD (kD (.int 0))))) (vT (binD eqG (xV 2) (vD (kD (.int 0)))))) (binD ixG (xV 0) (vD (kD (.int 3)))) (kD (.int 0))))))))
def F_stay_of : FF := runP 0 4 8 g_stay_of
def g_held_for : FS := (sqS (asS (binD ixG (xV 0) (vD (kD (.int 4)))) (gT 2 (gsC (gN 3) (gsC (gN 4) gsN))))
    (sqS (ifS (orT (vT (binD eqG (xV 3) (vD (kD (.str "none"))))) (andT (vT (binD neG (xV 3) (vD (kD (.str "beat"))))) (vT (isN (xV 1))))) (rtS (kD (.int 0))) skS)
    (sqS (ifS (vT (binD eqG (xV 3) (vD (kD (.str "gap"))))) (rtS (ifD (vT (binD geG (xV 1) (xV 4))) (kD (.int 0)) (negD (vD (kD (.int 1)))))) skS)
    (sqS (ifS (vT (binD eqG (xV 3) (vD (kD (.str "beat"))))) (rtS (ifD (vT (binD eqG (xV 2) (vD (kD (.int 0))))) (kD (.int 0)) (negD (vD (kD (.int 1)))))) skS)
    (rtS (callD maxG (aC (vD (kD (.int 0))) (aC (vD (binD fdivG (vD (binD subG (xV 4) (xV 1))) (vD (kD (.int 2))))) aN))))))))
def F_held_for : FF := runP 0 3 5 g_held_for
def g_part_behind : FS := (sqS (asS (xD 2) (gT 3 (gsC (gN 6) (gsC (gN 7) (gsC (gN 8) gsN)))))
    (sqS (ifS (vT (binD eqG (xV 6) (vD (kD k_RIDES)))) (rtS (ifD (vT (xD 3)) (tupD (aC (vD (kD k_STAYS)) (aC (xV 7) (aC (vD (cl0 F_stay_of (aC (xV 0) (aC (xV 1) (aC (xV 7) (aC (xV 4) aN)))))) aN)))) (tupD (aC (vD (kD k_RIDES)) (aC (xV 7) (aC (vD (binD addG (xV 8) (vD (kD (.int 1))))) aN)))))) skS)
    (sqS (ifS (vT (binD gtG (xV 8) (vD (kD (.int 1))))) (rtS (tupD (aC (xV 6) (aC (xV 7) (aC (vD (binD subG (xV 8) (vD (kD (.int 1))))) aN))))) skS)
    (sqS (asS (ifD (andT (vT (binD eqG (xV 6) (vD (kD k_HELD)))) (vT (binD eqG (vD (binD ixG (vD (binD ixG (xV 0) (vD (kD (.int 4))))) (vD (kD (.int 0))))) (vD (kD (.str "half")))))) (kD (.int 0)) (cl0 F_held_for (aC (xV 0) (aC (xV 4) (aC (xV 5) aN))))) (gN 9))
    (sqS (ifS (vT (binD eqG (xV 9) (vD (kD (.int 0))))) (rtS (tupD (aC (vD (kD k_RIDES)) (aC (vD (binD modG (vD (binD addG (xV 7) (vD (kD (.int 1))))) (vD (binD ixG (xV 0) (vD (kD (.int 0))))))) (aC (vD (kD (.int 0))) aN))))) skS)
    (rtS (tupD (aC (vD (kD k_HELD)) (aC (xV 7) (aC (vD (callD maxG (aC (vD (kD (.int 0))) (aC (xV 9) aN)))) aN))))))))))
def F_part_behind : FF := runP 0 6 10 g_part_behind
def g_passed : FS := (sqS (asS (xD 1) (gT 3 (gsC (gN 3) (gsC (gN 4) (gsC (gN 5) gsN)))))
    (sqS (parS [6, 7, 8, 9] (mF (lstD aN) (mF (lstD aN) (mD (tupD aN) (mD (tupD aN) mN)))))
    (sqS (frS (enuI (aC (xV 3) aN)) (gT 2 (gsC (gN 10) (gsC (gN 11) gsN))) (sqS (asS (xD 11) (gT 3 (gsC (gN 12) (gsC (gN 13) (gsC (gN 14) gsN)))))
    (sqS (asS (cl0 F_gap_of (aC (xV 4) (aC (xV 6) (aC (xV 13) aN)))) (gN 15))
    (sqS (asS (cl0 F_part_behind (aC (xV 0) (aC (xV 10) (aC (xV 11) (aC (vD (binD ixG (xV 2) (xV 10))) (aC (xV 15) (aC (xV 5) aN))))))) (gN 16))
    (sqS (ifS (andT (vT (binD eqG (xV 12) (vD (kD k_RIDES)))) (vT (binD eqG (vD (binD ixG (xV 16) (vD (kD (.int 0))))) (vD (kD k_STAYS))))) (asS (binD addG (xV 9) (vD (tupD (aC (vD (tupD (aC (xV 10) (aC (xV 13) (aC (xV 15) aN))))) aN)))) (gN 9)) skS)
    (sqS (ifS (andT (vT (binD neG (xV 12) (vD (kD k_RIDES)))) (vT (binD eqG (vD (binD ixG (xV 16) (vD (kD (.int 0))))) (vD (kD k_RIDES))))) (sqS (asS (binD addG (xV 8) (vD (tupD (aC (vD (tupD (aC (xV 10) (aC (xV 13) (aC (xV 15) aN))))) aN)))) (gN 8))
    (exS (vD (appD 6 (xD 13))))) skS)
    (exS (vD (appD 7 (xD 16))))))))))
    (sqS (asS (lcD (enuI (aC (xV 4) aN)) (gT 2 (gsC (gN 13) (gsC (gN 18) gsN))) yesT (ifD (vT (binD inG (xV 13) (xV 6))) (kD (.int 0)) (ifD (vT (isN (xV 18))) (kD .none) (binD addG (xV 18) (vD (kD (.int 1)))))) [13, 18]) (gN 17))
    (sqS (asS (ifD (vT (binD eqG (vD (binD ixG (vD (binD ixG (xV 0) (vD (kD (.int 4))))) (vD (kD (.int 0))))) (vD (kD (.str "beat"))))) (binD modG (vD (binD addG (xV 5) (vD (kD (.int 1))))) (vD (binD ixG (vD (binD ixG (xV 0) (vD (kD (.int 4))))) (vD (kD (.int 1)))))) (kD (.int 0))) (gN 5))
    (rtS (tupD (aC (vD (tupD (aC (vD (callD tupG (aC (xV 7) aN))) (aC (vD (callD tupG (aC (xV 17) aN))) (aC (xV 5) aN))))) (aC (xV 8) (aC (xV 9) aN))))))))))
def F_passed : FF := runP 0 3 19 g_passed
noncomputable def g_ways_by : FS := (sqS (asS (cl0 F_begin_of (aC (xV 0) aN)) (gN 1))
    (sqS (parS [2, 3, 4] (mF (dispN (xD 1) (tupD aN)) (mF (lstD (aC (xV 1) aN)) (mD (kD (.int 0)) mN))))
    (sqS (whS (vT (binD ltG (xV 4) (vD (callD lenG (aC (xV 3) aN))))) (sqS (asS (binD ixG (xV 3) (xV 4)) (gN 5))
    (sqS (asS (binD addG (xV 4) (vD (kD (.int 1)))) (gN 4))
    (frS (seqI (cl0 F_choices_of (aC (xV 0) (aC (xV 5) aN)))) (gN 6) (sqS (asS (binD ixG (vD (cl0 F_passed (aC (xV 0) (aC (xV 5) (aC (xV 6) aN))))) (vD (kD (.int 0)))) (gN 7))
    (ifS (vT (binD ninG (xV 7) (xV 2))) (sqS (stN 2 (binD addG (vD (binD ixG (xV 2) (xV 5))) (vD (tupD (aC (xV 6) aN)))) (xD 7))
    (exS (vD (appD 3 (xD 7))))) skS))))))
    (rtO 2))))
noncomputable def F_ways_by : FF := runP 0 1 8 g_ways_by
noncomputable def g_edges_by : FS := (sqS (owS 1 newD)
    (sqS (frS (dI dkeys (cl0 F_ways_by (aC (xV 0) aN))) (gN 2) (stN 1 (lcD (seqI (cl0 F_choices_of (aC (xV 0) (aC (xV 2) aN)))) (gN 3) yesT (binD addG (vD (tupD (aC (xV 3) aN))) (vD (cl0 F_passed (aC (xV 0) (aC (xV 2) (aC (xV 3) aN)))))) [3]) (xD 2)))
    (rtO 1)))
noncomputable def F_edges_by : FF := runP 0 1 4 g_edges_by
noncomputable def g_gaps_by : FS := (sqS (asS (lstD aN) (gN 1))
    (sqS (frS (dI dvals (cl0 F_edges_by (aC (xV 0) aN))) (gN 2) (frS (seqI (xD 2)) (gT 4 (gsC (gN 3) (gsC (gN 4) (gsC (gN 5) (gsC (gN 6) gsN))))) (asS (binD addG (xV 1) (vD (lcD (seqI (xD 5)) (gT 3 (gsC (gN 7) (gsC (gN 8) (gsC (gN 9) gsN)))) (andT (vT (notN (xV 9))) (vT (binD ninG (xV 9) (xV 1)))) (xD 9) [7, 8, 9]))) (gN 1))))
    (rtS (xD 1))))
noncomputable def F_gaps_by : FF := runP 0 1 10 g_gaps_by
noncomputable def g_waits_by : FS := (sqS (owS 1 (binD repG (vD (lstD (aC (vD (kD (.int 0))) aN))) (vD (binD ixG (xV 0) (vD (kD (.int 0)))))))
    (sqS (frS (dI dvals (cl0 F_edges_by (aC (xV 0) aN))) (gN 2) (frS (seqI (xD 2)) (gT 4 (gsC (gN 3) (gsC (gN 4) (gsC (gN 5) (gsC (gN 6) gsN))))) (frS (seqI (xD 6)) (gT 3 (gsC (gN 7) (gsC (gN 8) (gsC (gN 9) gsN)))) (stS 1 (callD maxG (aC (vD (binD ixG (xV 1) (xV 8))) (aC (vD (ifD (vT (isN (xV 9))) (kD (.int 0)) (xD 9))) aN))) (xD 8)))))
    (rtO 1)))
noncomputable def F_waits_by : FF := runP 0 1 10 g_waits_by
noncomputable def g_gaps : FS := (sqS (exS (vD (cl0 F_look_at_plan (aC (xV 0) aN))))
    (sqS (asS (cl0 F_gaps_by (aC (xV 0) aN)) (gN 1))
    (rtS (tupD (aC (vD (callD minG (aC (xV 1) aN))) (aC (vD (callD maxG (aC (xV 1) aN))) aN))))))
noncomputable def F_gaps : FF := runP 0 1 2 g_gaps
noncomputable def g_first_gap : FS := (sqS (exS (vD (cl0 F_look_at_plan (aC (xV 0) aN))))
    (sqS (exS (vD (cl0 F_look_at_number (aC (xV 1) aN))))
    (sqS (frS (dI dits (cl0 F_ways_by (aC (xV 0) aN))) (gT 2 (gsC (gN 2) (gsC (gN 3) gsN))) (frS (seqI (cl0 F_choices_of (aC (xV 0) (aC (xV 2) aN)))) (gN 4) (ifS (vT (binD inG (xV 1) (vD (lcD (seqI (binD ixG (vD (cl0 F_passed (aC (xV 0) (aC (xV 2) (aC (xV 4) aN))))) (vD (kD (.int 1))))) (gT 3 (gsC (gN 5) (gsC (gN 6) (gsC (gN 7) gsN)))) yesT (xD 7) [5, 6, 7])))) (rtS (binD addG (xV 3) (vD (tupD (aC (xV 4) aN))))) skS)))
    (rtS (kD .none)))))
noncomputable def F_first_gap : FF := runP 0 2 8 g_first_gap
noncomputable def g_longest_wait : FS := (sqS (exS (vD (cl0 F_look_at_plan (aC (xV 0) aN))))
    (sqS (exS (vD (cl0 F_look_at_stop (aC (xV 0) (aC (xV 1) aN)))))
    (rtS (binD ixG (vD (cl0 F_waits_by (aC (xV 0) aN))) (xV 1)))))
noncomputable def F_longest_wait : FF := runP 0 2 2 g_longest_wait
noncomputable def g_times_by : FS := (sqS (parS [2, 3] (mF (dcD (dI dkeys (xD 1)) (gN 8) yesT (emN (xD 8) (kD (.int 0))) [8]) (mF (dcD (dI dkeys (xD 1)) (gN 8) yesT (emN (xD 8) (kD (.int 0))) [8]) mN)))
    (sqS (frS (dI dvals (xD 1)) (gN 4) (frS (seqI (xD 4)) (gN 5) (stN 2 (binD addG (vD (binD ixG (xV 2) (vD (binD ixG (xV 5) (vD (kD (.int 1))))))) (vD (kD (.int 1)))) (binD ixG (xV 5) (vD (kD (.int 1)))))))
    (sqS (owS 6 (lcD (dI dkeys (xD 1)) (gN 8) (vT (binD eqG (vD (binD ixG (xV 2) (xV 8))) (vD (kD (.int 0))))) (xD 8) [8]))
    (sqS (owS 7 newD)
    (sqS (whS (vT (binD neG (xV 6) (vD (lstD aN)))) (sqS (asS (popD 6) (gN 8))
    (sqS (stN 7 (binD ixG (xV 3) (xV 8)) (xD 8))
    (frS (seqI (binD ixG (xV 1) (xV 8))) (gN 5) (sqS (stN 3 (callD maxG (aC (vD (binD ixG (xV 3) (vD (binD ixG (xV 5) (vD (kD (.int 1))))))) (aC (vD (binD addG (vD (binD ixG (xV 3) (xV 8))) (vD (kD (.int 1))))) aN))) (binD ixG (xV 5) (vD (kD (.int 1)))))
    (sqS (stN 2 (binD subG (vD (binD ixG (xV 2) (vD (binD ixG (xV 5) (vD (kD (.int 1))))))) (vD (kD (.int 1)))) (binD ixG (xV 5) (vD (kD (.int 1)))))
    (ifS (vT (binD eqG (vD (binD ixG (xV 2) (vD (binD ixG (xV 5) (vD (kD (.int 1))))))) (vD (kD (.int 0))))) (exS (vD (appD 6 (binD ixG (xV 5) (vD (kD (.int 1))))))) skS)))))))
    (rtS (dcD (dI dkeys (xD 1)) (gN 8) yesT (emN (xD 8) (nget1D (xV 7) (xD 8))) [8])))))))
noncomputable def F_times_by : FF := runP 0 2 9 g_times_by
noncomputable def g_settled_by : FS := (sqS (asS (cl0 F_edges_by (aC (xV 0) aN)) (gN 2))
    (sqS (parS [3, 4] (mD (cl0 F_times_by (aC (xV 0) (aC (xV 2) aN))) (mD (kD (.int 0)) mN)))
    (sqS (frS (dI dits (xD 2)) (gT 2 (gsC (gN 5) (gsC (gN 6) gsN))) (frS (seqI (xD 6)) (gT 4 (gsC (gN 7) (gsC (gN 8) (gsC (gN 9) (gsC (gN 10) gsN))))) (ifS (vT (callD anyG (aC (vD (lcD (seqI (xD 9)) (gT 3 (gsC (gN 11) (gsC (gN 12) (gsC (gN 13) gsN)))) yesT (andV (notN (xV 13)) (binD ltG (xV 13) (xV 1))) [11, 12, 13])) aN))) (sqS (ifS (vT (isN (vD (binD ixG (xV 3) (xV 5))))) (rtS (kD .none)) skS)
    (asS (callD maxG (aC (xV 4) (aC (vD (binD addG (vD (binD ixG (xV 3) (xV 5))) (vD (kD (.int 1))))) aN))) (gN 4))) skS)))
    (rtS (xD 4)))))
noncomputable def F_settled_by : FF := runP 0 2 14 g_settled_by
noncomputable def g_settles : FS := (sqS (exS (vD (cl0 F_look_at_plan (aC (xV 0) aN))))
    (sqS (exS (vD (cl0 F_look_at_number (aC (xV 1) aN))))
    (rtS (cl0 F_settled_by (aC (xV 0) (aC (xV 1) aN))))))
noncomputable def F_settles : FF := runP 0 2 2 g_settles
def g_law_spring : FS := (sqS (asS (kD (.int 7)) (gN 2))
    (sqS (ifS (vT (binD ltG (xV 1) (vD (callD lenG (aC (xV 0) aN))))) (asS (callD absG (aC (vD (binD ixG (xV 0) (xV 1))) aN)) (gN 2)) skS)
    (sqS (asS (binD modG (vD (callD intG (aC (vD (binD addG (vD (binD addG (vD (binD mulG (xV 2) (vD (kD (.int 863))))) (vD (binD mulG (vD (kD (.int 524287))) (xV 1))))) (vD (kD (.int 1))))) aN))) (vD (kD (.int 999999999989)))) (gN 3))
    skS)))
def e_law_spring : FD := (lstD (aC (vD (ifD (vT (binD geG (xV 2) (vD (binD powG (vD (kD (.int 10))) (vD (kD (.int 18))))))) (xD 2) (kD (.int 0)))) (aC (xV 3) aN)))
def F_law_spring : FF := runN 2 4 g_law_spring e_law_spring
def g_law_pick : FS := (sqS (ifS (vT (binD gtG (vD (binD ixG (xV 0) (vD (kD (.int 0))))) (vD (kD (.int 0))))) (sqS (asS (binD modG (vD (callD intG (aC (vD (binD ixG (xV 0) (vD (kD (.int 0))))) aN))) (xV 1)) (gN 2))
    (sqS (stS 0 (binD fdivG (vD (binD ixG (xV 0) (vD (kD (.int 0))))) (xV 1)) (kD (.int 0)))
    (rtS (xD 2)))) skS)
    (sqS (stS 0 (binD modG (vD (callD intG (aC (vD (binD addG (vD (binD mulG (vD (binD ixG (xV 0) (vD (kD (.int 1))))) (vD (kD (.int 393555900739))))) (vD (kD (.int 8191))))) aN))) (vD (kD (.int 999999999989)))) (kD (.int 1)))
    (rtS (binD modG (vD (callD intG (aC (vD (binD fdivG (vD (binD ixG (xV 0) (vD (kD (.int 1))))) (vD (kD (.int 4093))))) aN))) (xV 1)))))
def F_law_pick : FF := runP 1 2 3 g_law_pick
def g_law_plan : FS := (sqS (asS (binD addG (vD (kD (.int 2))) (vD (cl1 F_law_pick (aC (xV 0) (aC (vD (binD subG (xV 1) (vD (kD (.int 1))))) aN))))) (gN 2))
    (sqS (asS (binD addG (vD (kD (.int 1))) (vD (binD ixG (vD (lstD (aC (vD (kD (.int 0))) (aC (vD (kD (.int 0))) (aC (vD (kD (.int 1))) aN))))) (vD (cl1 F_law_pick (aC (xV 0) (aC (vD (kD (.int 3))) aN))))))) (gN 3))
    (sqS (asS (tupD (aC (xV 3) (aC (vD (callD minG (aC (vD (kD (.int 3))) (aC (vD (binD addG (xV 3) (vD (binD ixG (vD (lstD (aC (vD (kD (.int 0))) (aC (vD (kD (.int 1))) (aC (vD (kD (.int 1))) aN))))) (vD (cl1 F_law_pick (aC (xV 0) (aC (vD (kD (.int 3))) aN)))))))) aN)))) aN))) (gN 4))
    (sqS (asS (binD addG (vD (kD (.int 1))) (vD (binD ixG (vD (lstD (aC (vD (kD (.int 0))) (aC (vD (kD (.int 0))) (aC (vD (kD (.int 1))) aN))))) (vD (cl1 F_law_pick (aC (xV 0) (aC (vD (kD (.int 3))) aN))))))) (gN 5))
    (sqS (asS (tupD (aC (xV 5) (aC (vD (callD minG (aC (vD (kD (.int 3))) (aC (vD (binD addG (xV 5) (vD (cl1 F_law_pick (aC (xV 0) (aC (vD (kD (.int 3))) aN)))))) aN)))) (aC (vD (binD addG (vD (kD (.int 1))) (vD (cl1 F_law_pick (aC (xV 0) (aC (vD (kD (.int 4))) aN)))))) aN)))) (gN 6))
    (sqS (asS (binD ixG (vD (lstD (aC (vD (kD (.str "none"))) (aC (vD (kD (.str "none"))) (aC (vD (kD (.str "gap"))) (aC (vD (kD (.str "half"))) (aC (vD (kD (.str "beat"))) aN))))))) (vD (cl1 F_law_pick (aC (xV 0) (aC (vD (kD (.int 5))) aN))))) (gN 7))
    (sqS (asS (dispD [((kD (.str "none")), (kD (.int 0))), ((kD (.str "gap")), (binD addG (vD (kD (.int 1))) (vD (cl1 F_law_pick (aC (xV 0) (aC (vD (kD (.int 6))) aN)))))), ((kD (.str "half")), (binD addG (vD (kD (.int 1))) (vD (cl1 F_law_pick (aC (xV 0) (aC (vD (kD (.int 6))) aN))))))]) (gN 8))
    (sqS (asS (tupD (aC (xV 7) (aC (vD (get2D (xV 8) (xD 7) (binD addG (vD (kD (.int 2))) (vD (cl1 F_law_pick (aC (xV 0) (aC (vD (kD (.int 3))) aN))))))) aN))) (gN 9))
    (rtS (tupD (aC (xV 2) (aC (xV 4) (aC (xV 6) (aC (vD (binD ixG (vD (lstD (aC (vD (kD (.int 0))) (aC (vD (kD (.int 0))) (aC (vD (kD (.int 1))) (aC (vD (kD (.int 2))) aN)))))) (vD (cl1 F_law_pick (aC (xV 0) (aC (vD (kD (.int 4))) aN)))))) (aC (xV 9) (aC (vD (cl1 F_law_pick (aC (xV 0) (aC (xV 2) aN)))) aN))))))))))))))))
def F_law_plan : FF := runP 1 2 10 g_law_plan
def g_law_first : FS := (rtS (tupD (aC (vD (tupD (aC (vD (tupD (aC (vD (kD (.str "stays"))) (aC (vD (kD (.int 0))) (aC (vD (kD (.int 1))) aN))))) (aC (vD (tupD (aC (vD (kD (.str "stays"))) (aC (vD (binD ixG (xV 0) (vD (kD (.int 5))))) (aC (vD (kD (.int 1))) aN))))) aN)))) (aC (vD (binD mulG (vD (tupD (aC (vD (kD .none)) aN))) (vD (binD ixG (xV 0) (vD (kD (.int 0))))))) (aC (vD (kD (.int 0))) aN)))))
def F_law_first : FF := runP 0 1 1 g_law_first
def g_law_options : FS := (sqS (ifS (vT (binD eqG (vD (binD ixG (xV 1) (vD (kD (.int 0))))) (vD (kD (.str "rides"))))) (sqS (asS (binD addG (vD (binD ixG (xV 1) (vD (kD (.int 2))))) (vD (kD (.int 1)))) (gN 2))
    (rtS (binD addG (vD (binD mulG (vD (lstD (aC (vD (kD (.bool false))) aN))) (vD (callD intG (aC (vD (binD neG (xV 2) (vD (binD ixG (vD (binD ixG (xV 0) (vD (kD (.int 1))))) (vD (kD (.int 1))))))) aN))))) (vD (binD mulG (vD (lstD (aC (vD (kD (.bool true))) aN))) (vD (callD intG (aC (vD (binD leG (vD (binD ixG (vD (binD ixG (xV 0) (vD (kD (.int 1))))) (vD (kD (.int 0))))) (xV 2))) aN)))))))) skS)
    (rtS (lstD (aC (vD (kD (.bool false))) aN))))
def F_law_options : FF := runP 0 2 3 g_law_options
def g_law_choices : FS := (sqS (asS (lstD aN) (gN 2))
    (sqS (frS (seqI (cl0 F_law_options (aC (xV 0) (aC (vD (binD ixG (vD (binD ixG (xV 1) (vD (kD (.int 0))))) (vD (kD (.int 0))))) aN)))) (gN 3) (asS (binD addG (xV 2) (vD (lcD (seqI (cl0 F_law_options (aC (xV 0) (aC (vD (binD ixG (vD (binD ixG (xV 1) (vD (kD (.int 0))))) (vD (kD (.int 1))))) aN)))) (gN 4) yesT (tupD (aC (xV 3) (aC (xV 4) aN))) [4]))) (gN 2)))
    (rtS (xD 2))))
def F_law_choices : FF := runP 0 2 5 g_law_choices
def g_law_wait : FS := (sqS (asS (binD ixG (xV 0) (vD (kD (.int 4)))) (gT 2 (gsC (gN 3) (gsC (gN 4) gsN))))
    (sqS (ifS (vT (binD eqG (xV 3) (vD (kD (.str "beat"))))) (rtS (ifD (vT (binD eqG (xV 2) (vD (kD (.int 0))))) (kD .none) (kD (.int 0)))) skS)
    (sqS (ifS (orT (vT (binD eqG (xV 3) (vD (kD (.str "none"))))) (vT (isN (xV 1)))) (rtS (kD .none)) skS)
    (sqS (ifS (vT (binD eqG (xV 3) (vD (kD (.str "gap"))))) (rtS (ifD (vT (binD leG (xV 4) (xV 1))) (kD .none) (kD (.int 0)))) skS)
    (sqS (asS (binD subG (xV 4) (xV 1)) (gN 5))
    (rtS (ifD (vT (binD gtG (xV 5) (vD (kD (.int 1))))) (binD fdivG (xV 5) (vD (kD (.int 2)))) (kD .none))))))))
def F_law_wait : FF := runP 0 3 6 g_law_wait
def g_law_moved : FS := (sqS (asS (xD 2) (gT 3 (gsC (gN 6) (gsC (gN 7) (gsC (gN 8) gsN)))))
    (sqS (ifS (andT (vT (binD eqG (xV 6) (vD (kD (.str "rides"))))) (notT (vT (xD 3)))) (rtS (tupD (aC (vD (kD (.str "rides"))) (aC (xV 7) (aC (vD (binD addG (xV 8) (vD (kD (.int 1))))) aN))))) skS)
    (sqS (ifS (vT (binD eqG (xV 6) (vD (kD (.str "rides"))))) (sqS (asS (binD ixG (xV 0) (vD (kD (.int 2)))) (gT 3 (gsC (gN 9) (gsC (gN 10) (gsC (gN 11) gsN)))))
    (sqS (asS (ifD (vT (isN (xV 4))) (xD 9) (callD minG (aC (vD (binD addG (xV 9) (vD (binD fdivG (xV 4) (xV 11))))) (aC (xV 10) aN)))) (gN 12))
    (rtS (tupD (aC (vD (kD (.str "stays"))) (aC (xV 7) (aC (vD (binD addG (xV 12) (vD (binD mulG (vD (binD ixG (xV 0) (vD (kD (.int 3))))) (vD (callD intG (aC (vD (binD eqG (vD (tupD (aC (xV 1) (aC (xV 7) aN)))) (vD (tupD (aC (vD (kD (.int 0))) (aC (vD (kD (.int 0))) aN)))))) aN))))))) aN))))))) skS)
    (sqS (ifS (vT (binD gtG (xV 8) (vD (kD (.int 1))))) (rtS (tupD (aC (xV 6) (aC (xV 7) (aC (vD (binD subG (xV 8) (vD (kD (.int 1))))) aN))))) skS)
    (sqS (asS (cl0 F_law_wait (aC (xV 0) (aC (xV 4) (aC (xV 5) aN)))) (gN 13))
    (sqS (ifS (orT (vT (isN (xV 13))) (andT (vT (binD eqG (xV 6) (vD (kD (.str "held"))))) (vT (binD eqG (vD (binD ixG (vD (binD ixG (xV 0) (vD (kD (.int 4))))) (vD (kD (.int 0))))) (vD (kD (.str "half"))))))) (rtS (tupD (aC (vD (kD (.str "rides"))) (aC (vD (ifD (vT (binD eqG (vD (binD addG (xV 7) (vD (kD (.int 1))))) (vD (binD ixG (xV 0) (vD (kD (.int 0))))))) (kD (.int 0)) (binD addG (xV 7) (vD (kD (.int 1)))))) (aC (vD (kD (.int 0))) aN))))) skS)
    (rtS (tupD (aC (vD (kD (.str "held"))) (aC (xV 7) (aC (xV 13) aN)))))))))))
def F_law_moved : FF := runP 0 6 14 g_law_moved
def g_law_tick : FS := (sqS (asS (xD 1) (gT 3 (gsC (gN 3) (gsC (gN 4) (gsC (gN 5) gsN)))))
    (sqS (parS [6, 7, 8, 9] (mF (callD listG (aC (xV 4) aN)) (mF (lstD aN) (mF (lstD aN) (mF (lstD aN) mN)))))
    (sqS (frS (seqI (lstD (aC (vD (kD (.int 0))) (aC (vD (kD (.int 1))) aN)))) (gN 10) (sqS (asS (binD ixG (xV 3) (xV 10)) (gT 3 (gsC (gN 11) (gsC (gN 12) (gsC (gN 13) gsN)))))
    (sqS (asS (ifD (vT (isN (vD (binD ixG (xV 6) (xV 12))))) (kD .none) (binD addG (vD (binD ixG (xV 6) (xV 12))) (vD (kD (.int 1))))) (gN 14))
    (sqS (exS (vD (appD 9 (cl0 F_law_moved (aC (xV 0) (aC (xV 10) (aC (vD (binD ixG (xV 3) (xV 10))) (aC (vD (binD ixG (xV 2) (xV 10))) (aC (xV 14) (aC (xV 5) aN))))))))))
    (sqS (ifS (andT (vT (binD neG (xV 11) (vD (kD (.str "rides"))))) (vT (binD eqG (vD (binD ixG (vD (binD ixG (xV 9) (vD (negD (vD (kD (.int 1))))))) (vD (kD (.int 0))))) (vD (kD (.str "rides")))))) (sqS (exS (vD (appD 7 (tupD (aC (xV 10) (aC (xV 12) (aC (xV 14) aN)))))))
    (stS 6 (negD (vD (kD (.int 1)))) (xD 12))) skS)
    (ifS (andT (vT (binD eqG (xV 11) (vD (kD (.str "rides"))))) (vT (binD ixG (xV 2) (xV 10)))) (exS (vD (appD 8 (tupD (aC (xV 10) (aC (xV 12) (aC (xV 14) aN))))))) skS))))))
    (sqS (frzS 6 (asS (callD tupG (aC (vD (lcD (seqI (xD 6)) (gN 16) yesT (ifD (vT (isN (xV 16))) (kD .none) (binD addG (xV 16) (vD (kD (.int 1))))) [16])) aN)) (gN 6)))
    (sqS (asS (ifD (vT (binD eqG (vD (binD ixG (vD (binD ixG (xV 0) (vD (kD (.int 4))))) (vD (kD (.int 0))))) (vD (kD (.str "beat"))))) (binD modG (vD (binD addG (xV 5) (vD (kD (.int 1))))) (vD (binD ixG (vD (binD ixG (xV 0) (vD (kD (.int 4))))) (vD (kD (.int 1)))))) (kD (.int 0))) (gN 15))
    (rtS (tupD (aC (vD (tupD (aC (vD (callD tupG (aC (xV 9) aN))) (aC (xV 6) (aC (xV 15) aN))))) (aC (vD (callD tupG (aC (xV 7) aN))) (aC (vD (callD tupG (aC (xV 8) aN))) aN))))))))))
def F_law_tick : FF := runP 0 3 17 g_law_tick
noncomputable def g_law : FS := (sqS (frS (rng1I (aC (vD (binD addG (vD (callD minG (aC (vD (callD lenG (aC (xV 0) aN))) (aC (vD (kD (.int 3))) aN)))) (vD (kD (.int 1))))) aN)) (gN 1) (sqS (owS 2 (clN F_law_spring (aC (xV 0) (aC (xV 1) aN))))
    (sqS (asS (cl1 F_law_plan (aC (xV 2) (aC (vD (kD (.int 2))) aN))) (gN 3))
    (sqS (asS (cl0 F_gaps (aC (xV 3) aN)) (gT 2 (gsC (gN 4) (gsC (gN 5) gsN))))
    (sqS (asS (lcD (rng1I (aC (vD (kD (.int 2))) aN)) (gN 17) yesT (cl0 F_longest_wait (aC (xV 3) (aC (xV 17) aN))) [17]) (gN 6))
    (sqS (asS (binD addG (vD (binD addG (xV 4) (vD (kD (.int 1))))) (vD (cl1 F_law_pick (aC (xV 2) (aC (vD (kD (.int 2))) aN))))) (gN 7))
    (sqS (asS (cl0 F_settles (aC (xV 3) (aC (xV 7) aN))) (gN 8))
    (sqS (ifS (vT (binD neG (vD (cl0 F_settles (aC (xV 3) (aC (xV 4) aN)))) (vD (kD (.int 0))))) (rtS (kD (.bool false))) skS)
    (sqS (owS 9 newD)
    (sqS (frS (rng1I (aC (vD (kD (.int 10))) aN)) (gN 10) (sqS (asS (cl0 F_law_first (aC (xV 3) aN)) (gN 11))
    (frS (rng1I (aC (vD (kD (.int 80))) aN)) (gN 12) (sqS (asS (cl0 F_law_choices (aC (xV 3) (aC (xV 11) aN))) (gN 13))
    (sqS (asS (cl0 F_law_tick (aC (xV 3) (aC (xV 11) (aC (vD (binD ixG (xV 13) (vD (cl1 F_law_pick (aC (xV 2) (aC (vD (callD lenG (aC (xV 13) aN))) aN)))))) aN)))) (gT 3 (gsC (gN 11) (gsC (gN 14) (gsC (gN 15) gsN)))))
    (sqS (frS (seqI (xD 14)) (gT 3 (gsC (gN 16) (gsC (gN 17) (gsC (gN 18) gsN)))) (ifS (vT (notN (xV 18))) (sqS (stK 9 (callD minG (aC (xV 12) (aC (vD (get2E (xV 9) (xD 18) (xD 12))) aN))) (xD 18))
    (ifS (orT (notT (vT (chD leG leG (xV 4) (xV 18) (xV 5)))) (andT (vT (notN (xV 8))) (andT (vT (binD geG (xV 12) (xV 8))) (vT (binD ltG (xV 18) (xV 7)))))) (rtS (kD (.bool false))) skS)) skS))
    (ifS (vT (binD neG (vD (lcD (seqI (xD 15)) (gT 3 (gsC (gN 16) (gsC (gN 17) (gsC (gN 18) gsN)))) (andT (vT (notN (xV 18))) (vT (binD gtG (xV 18) (vD (binD ixG (xV 6) (xV 17)))))) (kD (.int 1)) [16, 17, 18])) (vD (lstD aN)))) (rtS (kD (.bool false))) skS)))))))
    (frS (seqI (binD addG (vD (slD (vD (callD sortKE (aC (xV 9) aN))) oN (oS (kD (.int 2))))) (vD (slD (vD (callD sortKE (aC (xV 9) aN))) (oS (negD (vD (kD (.int 1))))) oN)))) (gN 18) (sqS (asS (cl0 F_first_gap (aC (xV 3) (aC (xV 18) aN))) (gN 19))
    (ifS (orT (vT (isN (xV 19))) (vT (binD gtG (vD (callD lenG (aC (xV 19) aN))) (vD (binD addG (vD (binD ixK (xV 9) (xV 18))) (vD (kD (.int 1)))))))) (rtS (kD (.bool false))) skS)))))))))))))
    (rtS (kD (.bool true))))
noncomputable def F_law : FF := runP 0 1 20 g_law
/-- the built-in names that the text leaves alone -/
structure Blt (mg : Str → Option Value) : Prop where
  b_abs : mg "abs" = none
  b_any : mg "any" = none
  b_bool : mg "bool" = none
  b_enumerate : mg "enumerate" = none
  b_int : mg "int" = none
  b_isinstance : mg "isinstance" = none
  b_len : mg "len" = none
  b_list : mg "list" = none
  b_max : mg "max" = none
  b_min : mg "min" = none
  b_range : mg "range" = none
  b_sorted : mg "sorted" = none
  b_str : mg "str" = none
  b_tuple : mg "tuple" = none
structure Glb (Y : Lay) (mg : Str → Option Value) : Prop where
  HOLDS : GCon Y mg "HOLDS" k_HOLDS
  RIDES : GCon Y mg "RIDES" k_RIDES
  STAYS : GCon Y mg "STAYS" k_STAYS
  HELD : GCon Y mg "HELD" k_HELD
section
variable {P : Program} {w : World} {K : PySem.W.Frag} {mg : Str → Option Value} {base : Heap}
abbrev s_is_within : Stmt := topS 10
abbrev sc_N_is_within : List Str := ["value", "low", "high"]
theorem sc_is_within : FnScope ["value", "low", "high"] ["value", "low", "high"] (defScope s_is_within) := ⟨rfl, rfl, rfl, by decide +kernel, rfl, by decide +kernel, by decide +kernel⟩
theorem ok_is_within {f : Addr} {fd : FuncData} (F : Fun K "is_within" "is_within" s_is_within f fd) (B : Blt mg) (G : Glb ⟨P, w, K⟩ mg) : FnOk P w K mg base CX0 1 f fd ["value", "low", "high"] (spD ⟨P, w, K⟩ 3 F_is_within) :=
  fn_p (k := 0) F sc_is_within (fun _ _ h => h) fun cdv A outer s H E hr => by
    have hu := hr.units
    have nd := sc_is_within.nd
    exact (z_one (z_ret (d_and (d_isi isi_int (xv 0) B.b_isinstance B.b_int) (d_and (d_not (d_isi isi_bool (xv 0) B.b_isinstance B.b_bool)) (d_one (d_chain op_le op_le sem_cmp sem_cmp (xv 1) (xv 0) (xv 2)))))))
abbrev s_is_row : Stmt := topS 11
abbrev sc_N_is_row : List Str := ["value", "size"]
theorem sc_is_row : FnScope ["value", "size"] ["value", "size"] (defScope s_is_row) := ⟨rfl, rfl, rfl, by decide +kernel, rfl, by decide +kernel, by decide +kernel⟩
theorem ok_is_row {f : Addr} {fd : FuncData} (F : Fun K "is_row" "is_row" s_is_row f fd) (B : Blt mg) (G : Glb ⟨P, w, K⟩ mg) : FnOk P w K mg base CX0 1 f fd ["value", "size"] (spD ⟨P, w, K⟩ 2 F_is_row) :=
  fn_p (k := 0) F sc_is_row (fun _ _ h => h) fun cdv A outer s H E hr => by
    have hu := hr.units
    have nd := sc_is_row.nd
    exact (z_one (z_ret (d_and (d_isi isi_tup (xv 0) B.b_isinstance B.b_tuple) (d_one (d_eq hu (vw (d_callB call_len sem_len B.b_len (by decide +kernel) (pas_cons (xv 0) pas_nil))) (xv 1))))))
abbrev s_is_span : Stmt := topS 12
abbrev sc_N_is_span : List Str := ["value", "low", "high"]
theorem sc_is_span : FnScope ["value", "low", "high"] ["value", "low", "high"] (defScope s_is_span) := ⟨rfl, rfl, rfl, by decide +kernel, rfl, by decide +kernel, by decide +kernel⟩
theorem ok_is_span {f : Addr} {fd : FuncData} (F : Fun K "is_span" "is_span" s_is_span f fd) (B : Blt mg) (G : Glb ⟨P, w, K⟩ mg) (c_is_row : Cal P w K mg base "is_row" 1 2 F_is_row) (c_is_within : Cal P w K mg base "is_within" 1 3 F_is_within) : FnOk P w K mg base CX0 2 f fd ["value", "low", "high"] (spD ⟨P, w, K⟩ 3 F_is_span) :=
  fn_p (k := 1) F sc_is_span (fun _ _ h => h) fun cdv A outer s H E hr => by
    have hu := hr.units
    have nd := sc_is_span.nd
    exact (z_one (z_ret (d_and (c_call0 c_is_row hr (by decide) (pas_cons (xv 0) (pas_cons (vw ci) pas_nil))) (d_and (c_call0 c_is_within hr (by decide) (pas_cons (vw (d_item hu (xv 0) (vw ci))) (pas_cons (xv 1) (pas_cons (xv 2) pas_nil)))) (d_one (c_call0 c_is_within hr (by decide) (pas_cons (vw (d_item hu (xv 0) (vw ci))) (pas_cons (vw (d_item hu (xv 0) (vw ci))) (pas_cons (xv 2) pas_nil)))))))))
abbrev s_is_hold : Stmt := topS 13
abbrev sc_N_is_hold : List Str := ["value", "word", "low", "high"]
theorem sc_is_hold : FnScope ["value", "word", "low", "high"] ["value"] (defScope s_is_hold) := ⟨rfl, rfl, rfl, by decide +kernel, rfl, by decide +kernel, by decide +kernel⟩
theorem ok_is_hold {f : Addr} {fd : FuncData} (F : Fun K "is_hold" "is_hold" s_is_hold f fd) (B : Blt mg) (G : Glb ⟨P, w, K⟩ mg) (c_is_row : Cal P w K mg base "is_row" 1 2 F_is_row) (c_is_within : Cal P w K mg base "is_within" 1 3 F_is_within) : FnOk P w K mg base CX0 2 f fd ["value"] (spD ⟨P, w, K⟩ 1 F_is_hold) :=
  fn_p (k := 1) F sc_is_hold (fun _ _ h => h) fun cdv A outer s H E hr => by
    have hu := hr.units
    have nd := sc_is_hold.nd
    exact (z_cons (z_if (t_w (w_or (t_not (t_val (c_call0 c_is_row hr (by decide) (pas_cons (xv 0) (pas_cons (vw ci) pas_nil))))) (w_or1 (t_not (t_val (d_isi isi_str (vw (d_item hu (xv 0) (vw ci))) B.b_isinstance B.b_str))))))
    (z_one (z_ret cb))
    z_nil)
    (z_one (z_ret (d_callB (cr_any rfl) sem_any B.b_any (by decide +kernel) (pas_cons (vw (fr (f_lc (own := [("word", 1), ("low", 2), ("high", 3)]) rfl nd (i_seq (cg G.HOLDS)) (blkOk_by (N := sc_N_is_hold) (sc := defScope s_is_hold) (own := [("word", 1), ("low", 2), ("high", 3)]) (by decide +kernel)) (fun _ _ _ _ _ => (g_t rfl (gs_c (g_n 1 nd) (gs_c (g_n 2 nd) (gs_c (g_n 3 nd) gs_n))))) (fun _ _ _ _ _ => c_yes) (fun _ _ _ _ _ => (d_and (d_eq hu (vw (d_item hu (xv 0) (vw ci))) (xv 1)) (d_one (c_call0 c_is_within hr (by decide) (pas_cons (vw (d_item hu (xv 0) (vw ci))) (pas_cons (xv 2) (pas_cons (xv 3) pas_nil)))))))))) pas_nil)))))
abbrev s_is_plan : Stmt := topS 14
abbrev sc_N_is_plan : List Str := ["value"]
theorem sc_is_plan : FnScope ["value"] ["value"] (defScope s_is_plan) := ⟨rfl, rfl, rfl, by decide +kernel, rfl, by decide +kernel, by decide +kernel⟩
theorem ok_is_plan {f : Addr} {fd : FuncData} (F : Fun K "is_plan" "is_plan" s_is_plan f fd) (B : Blt mg) (G : Glb ⟨P, w, K⟩ mg) (c_is_within : Cal P w K mg base "is_within" 1 3 F_is_within) (c_is_hold : Cal P w K mg base "is_hold" 2 1 F_is_hold) (c_is_row : Cal P w K mg base "is_row" 1 2 F_is_row) (c_is_span : Cal P w K mg base "is_span" 2 3 F_is_span) : FnOk P w K mg base CX0 3 f fd ["value"] (spD ⟨P, w, K⟩ 1 F_is_plan) :=
  fn_p (k := 2) F sc_is_plan (fun _ _ h => h) fun cdv A outer s H E hr => by
    have hu := hr.units
    have nd := sc_is_plan.nd
    exact (z_cons (z_if (t_w (w_or (t_not (t_val (c_call0 c_is_row hr (by decide) (pas_cons (xv 0) (pas_cons (vw ci) pas_nil))))) (w_or (t_not (t_val (c_call0 c_is_within hr (by decide) (pas_cons (vw (d_item hu (xv 0) (vw ci))) (pas_cons (vw ci) (pas_cons (vw ci) pas_nil)))))) (w_or1 (t_not (t_val (c_call0 c_is_span hr (by decide) (pas_cons (vw (d_item hu (xv 0) (vw ci))) (pas_cons (vw ci) (pas_cons (vw ci) pas_nil))))))))))
    (z_one (z_ret cb))
    z_nil)
    (z_cons (z_if (t_w (w_or (t_not (t_val (c_call0 c_is_row hr (by decide) (pas_cons (vw (d_item hu (xv 0) (vw ci))) (pas_cons (vw ci) pas_nil))))) (w_or (t_not (t_val (c_call0 c_is_span hr (by decide) (pas_cons (vw (d_slice (vw (d_item hu (xv 0) (vw ci))) o_n (o_s ci))) (pas_cons (vw ci) (pas_cons (vw ci) pas_nil)))))) (w_or1 (t_not (t_val (c_call0 c_is_within hr (by decide) (pas_cons (vw (d_item hu (vw (d_item hu (xv 0) (vw ci))) (vw ci))) (pas_cons (vw ci) (pas_cons (vw ci) pas_nil))))))))))
    (z_one (z_ret cb))
    z_nil)
    (z_one (z_ret (d_and (c_call0 c_is_within hr (by decide) (pas_cons (vw (d_item hu (xv 0) (vw ci))) (pas_cons (vw ci) (pas_cons (vw ci) pas_nil)))) (d_and (c_call0 c_is_hold hr (by decide) (pas_cons (vw (d_item hu (xv 0) (vw ci))) pas_nil)) (d_one (c_call0 c_is_within hr (by decide) (pas_cons (vw (d_item hu (xv 0) (vw ci))) (pas_cons (vw ci) (pas_cons (vw (d_sub (vw (d_item hu (xv 0) (vw ci))) (vw ci))) pas_nil)))))))))))
abbrev s_look_at_plan : Stmt := topS 15
abbrev sc_N_look_at_plan : List Str := ["plan"]
theorem sc_look_at_plan : FnScope ["plan"] ["plan"] (defScope s_look_at_plan) := ⟨rfl, rfl, rfl, by decide +kernel, rfl, by decide +kernel, by decide +kernel⟩
theorem ok_look_at_plan {f : Addr} {fd : FuncData} (F : Fun K "look_at_plan" "look_at_plan" s_look_at_plan f fd) (B : Blt mg) (G : Glb ⟨P, w, K⟩ mg) (c_is_plan : Cal P w K mg base "is_plan" 3 1 F_is_plan) : FnOk P w K mg base CX0 4 f fd ["plan"] (spD ⟨P, w, K⟩ 1 F_look_at_plan) :=
  fn_p (k := 3) F sc_look_at_plan (fun _ _ h => h) fun cdv A outer s H E hr => by
    have hu := hr.units
    have nd := sc_look_at_plan.nd
    exact (z_one (z_if (t_not (t_val (c_call0 c_is_plan hr (by decide) (pas_cons (xv 0) pas_nil))))
    (z_one z_never)
    z_nil))
abbrev s_look_at_stop : Stmt := topS 16
abbrev sc_N_look_at_stop : List Str := ["plan", "stop"]
theorem sc_look_at_stop : FnScope ["plan", "stop"] ["plan", "stop"] (defScope s_look_at_stop) := ⟨rfl, rfl, rfl, by decide +kernel, rfl, by decide +kernel, by decide +kernel⟩
theorem ok_look_at_stop {f : Addr} {fd : FuncData} (F : Fun K "look_at_stop" "look_at_stop" s_look_at_stop f fd) (B : Blt mg) (G : Glb ⟨P, w, K⟩ mg) (c_is_within : Cal P w K mg base "is_within" 1 3 F_is_within) : FnOk P w K mg base CX0 2 f fd ["plan", "stop"] (spD ⟨P, w, K⟩ 2 F_look_at_stop) :=
  fn_p (k := 1) F sc_look_at_stop (fun _ _ h => h) fun cdv A outer s H E hr => by
    have hu := hr.units
    have nd := sc_look_at_stop.nd
    exact (z_one (z_if (t_not (t_val (c_call0 c_is_within hr (by decide) (pas_cons (xv 1) (pas_cons (vw ci) (pas_cons (vw (d_sub (vw (d_item hu (xv 0) (vw ci))) (vw ci))) pas_nil))))))
    (z_one z_never)
    z_nil))
abbrev s_look_at_number : Stmt := topS 17
abbrev sc_N_look_at_number : List Str := ["number"]
theorem sc_look_at_number : FnScope ["number"] ["number"] (defScope s_look_at_number) := ⟨rfl, rfl, rfl, by decide +kernel, rfl, by decide +kernel, by decide +kernel⟩
theorem ok_look_at_number {f : Addr} {fd : FuncData} (F : Fun K "look_at_number" "look_at_number" s_look_at_number f fd) (B : Blt mg) (G : Glb ⟨P, w, K⟩ mg) (c_is_within : Cal P w K mg base "is_within" 1 3 F_is_within) : FnOk P w K mg base CX0 2 f fd ["number"] (spD ⟨P, w, K⟩ 1 F_look_at_number) :=
  fn_p (k := 1) F sc_look_at_number (fun _ _ h => h) fun cdv A outer s H E hr => by
    have hu := hr.units
    have nd := sc_look_at_number.nd
    exact (z_one (z_if (t_not (t_val (c_call0 c_is_within hr (by decide) (pas_cons (xv 0) (pas_cons (vw ci) (pas_cons (vw ci) pas_nil))))))
    (z_one z_never)
    z_nil))
abbrev s_begin_of : Stmt := topS 18
abbrev sc_N_begin_of : List Str := ["plan"]
theorem sc_begin_of : FnScope ["plan"] ["plan"] (defScope s_begin_of) := ⟨rfl, rfl, rfl, by decide +kernel, rfl, by decide +kernel, by decide +kernel⟩
theorem ok_begin_of {f : Addr} {fd : FuncData} (F : Fun K "begin_of" "begin_of" s_begin_of f fd) (B : Blt mg) (G : Glb ⟨P, w, K⟩ mg) : FnOk P w K mg base CX0 1 f fd ["plan"] (spD ⟨P, w, K⟩ 1 F_begin_of) :=
  fn_p (k := 0) F sc_begin_of (fun _ _ h => h) fun cdv A outer s H E hr => by
    have hu := hr.units
    have nd := sc_begin_of.nd
    exact (z_one (z_ret (d_tup (pas_cons (vw (d_tup (pas_cons (vw (d_tup (pas_cons (vw (cg G.STAYS)) (pas_cons (vw ci) (pas_cons (vw ci) pas_nil))))) (pas_cons (vw (d_tup (pas_cons (vw (cg G.STAYS)) (pas_cons (vw (d_item hu (xv 0) (vw ci))) (pas_cons (vw ci) pas_nil))))) pas_nil)))) (pas_cons (vw (d_mul (vw (d_tup (pas_cons (vw cn) pas_nil))) (vw (d_item hu (xv 0) (vw ci))))) (pas_cons (vw ci) pas_nil))))))
abbrev s_ways_of : Stmt := topS 20
abbrev sc_N_ways_of : List Str := ["plan", "part", "low", "high"]
theorem sc_ways_of : FnScope ["plan", "part", "low", "high"] ["plan", "part"] (defScope s_ways_of) := ⟨rfl, rfl, rfl, by decide +kernel, rfl, by decide +kernel, by decide +kernel⟩
theorem ok_ways_of {f : Addr} {fd : FuncData} (F : Fun K "ways_of" "ways_of" s_ways_of f fd) (B : Blt mg) (G : Glb ⟨P, w, K⟩ mg) : FnOk P w K mg base CX0 1 f fd ["plan", "part"] (spD ⟨P, w, K⟩ 2 F_ways_of) :=
  fn_p (k := 0) F sc_ways_of (fun _ _ h => h) fun cdv A outer s H E hr => by
    have hu := hr.units
    have nd := sc_ways_of.nd
    exact (z_cons (z_if (t_ne hu (vw (d_item hu (xv 1) (vw ci))) (vw (cg G.RIDES)))
    (z_one (z_ret (fr (f_lst (pas_cons (vw cb) pas_nil)))))
    z_nil)
    (z_cons (z_asg (d_item hu (xv 0) (vw ci)) (g_t rfl (gs_c (g_n 2 nd) (gs_c (g_n 3 nd) gs_n))))
    (z_one (z_ret (d_add (vw (d_mul (vw (fr (f_lst (pas_cons (vw cb) pas_nil)))) (vw (d_callT call_int1 sem_int B.b_int (by decide +kernel) (pas_cons (vw (d_lt (vw (d_add (vw (d_item hu (xv 1) (vw ci))) (vw ci))) (xv 3))) pas_nil))))) (vw (d_mul (vw (fr (f_lst (pas_cons (vw cb) pas_nil)))) (vw (d_callT call_int1 sem_int B.b_int (by decide +kernel) (pas_cons (vw (d_ge (vw (d_add (vw (d_item hu (xv 1) (vw ci))) (vw ci))) (xv 2))) pas_nil))))))))))
abbrev s_choices_of : Stmt := topS 21
abbrev sc_N_choices_of : List Str := ["plan", "stand", "first", "second", "part", "one", "other"]
theorem sc_choices_of : FnScope ["plan", "stand", "first", "second", "part", "one", "other"] ["plan", "stand"] (defScope s_choices_of) := ⟨rfl, rfl, rfl, by decide +kernel, rfl, by decide +kernel, by decide +kernel⟩
theorem ok_choices_of {f : Addr} {fd : FuncData} (F : Fun K "choices_of" "choices_of" s_choices_of f fd) (B : Blt mg) (G : Glb ⟨P, w, K⟩ mg) (c_ways_of : Cal P w K mg base "ways_of" 1 2 F_ways_of) : FnOk P w K mg base CX0 2 f fd ["plan", "stand"] (spD ⟨P, w, K⟩ 2 F_choices_of) :=
  fn_p (k := 1) F sc_choices_of (fun _ _ h => h) fun cdv A outer s H E hr => by
    have hu := hr.units
    have nd := sc_choices_of.nd
    exact (z_cons (z_asg (fr (f_lc (own := [("part", 4)]) rfl nd (i_seq (d_item hu (xv 1) (vw ci))) (blkOk_by (N := sc_N_choices_of) (sc := defScope s_choices_of) (own := [("part", 4)]) (by decide +kernel)) (fun _ _ _ _ _ => (g_n 4 nd)) (fun _ _ _ _ _ => c_yes) (fun _ _ _ _ _ => (c_call0 c_ways_of hr (by decide) (pas_cons (xv 0) (pas_cons (xv 4) pas_nil)))))) (g_t rfl (gs_c (g_n 2 nd) (gs_c (g_n 3 nd) gs_n))))
    (z_one (z_ret (fr (f_lc2 (own := [("one", 5), ("other", 6)]) [6] rfl nd (i_seq (xd 2)) (blkOk_by (N := sc_N_choices_of) (sc := defScope s_choices_of) (own := [("one", 5), ("other", 6)]) (by decide +kernel)) (fun _ _ _ _ _ => (g_n 5 nd)) (fun _ _ _ _ _ => c_yes) (fun _ _ _ _ _ => (i_seq (xd 3))) (fun _ _ _ _ _ => (g_n 6 nd)) (fun _ _ _ _ _ => c_yes) (fun _ _ _ _ _ => (d_tup (pas_cons (xv 5) (pas_cons (xv 6) pas_nil)))))))))
abbrev s_gap_of : Stmt := topS 22
abbrev sc_N_gap_of : List Str := ["since", "left", "stop"]
theorem sc_gap_of : FnScope ["since", "left", "stop"] ["since", "left", "stop"] (defScope s_gap_of) := ⟨rfl, rfl, rfl, by decide +kernel, rfl, by decide +kernel, by decide +kernel⟩
theorem ok_gap_of {f : Addr} {fd : FuncData} (F : Fun K "gap_of" "gap_of" s_gap_of f fd) (B : Blt mg) (G : Glb ⟨P, w, K⟩ mg) : FnOk P w K mg base CX0 1 f fd ["since", "left", "stop"] (spD ⟨P, w, K⟩ 3 F_gap_of) :=
  fn_p (k := 0) F sc_gap_of (fun _ _ h => h) fun cdv A outer s H E hr => by
    have hu := hr.units
    have nd := sc_gap_of.nd
    exact (z_cons (z_if (t_in hu (xv 2) (xv 1))
    (z_one (z_ret ci))
    z_nil)
    (z_one (z_ret (d_if (t_isN (vw (d_item hu (xv 0) (xv 2)))) cn (d_add (vw (d_item hu (xv 0) (xv 2))) (vw ci))))))
abbrev s_stay_of : Stmt := topS 23
abbrev sc_N_stay_of : List Str := ["plan", "number", "stop", "gap", "least", "most", "grow", "found"]
theorem sc_stay_of : FnScope ["plan", "number", "stop", "gap", "least", "most", "grow", "found"] ["plan", "number", "stop", "gap"] (defScope s_stay_of) := ⟨rfl, rfl, rfl, by decide +kernel, rfl, by decide +kernel, by decide +kernel⟩
theorem ok_stay_of {f : Addr} {fd : FuncData} (F : Fun K "stay_of" "stay_of" s_stay_of f fd) (B : Blt mg) (G : Glb ⟨P, w, K⟩ mg) : FnOk P w K mg base CX0 1 f fd ["plan", "number", "stop", "gap"] (spD ⟨P, w, K⟩ 4 F_stay_of) :=
  fn_p (k := 0) F sc_stay_of (fun _ _ h => h) fun cdv A outer s H E hr => by
    have hu := hr.units
    have nd := sc_stay_of.nd
    exact (z_cons (z_asg (d_item hu (xv 0) (vw ci)) (g_t rfl (gs_c (g_n 4 nd) (gs_c (g_n 5 nd) (gs_c (g_n 6 nd) gs_n)))))
    (z_cons (z_set 7 nd (d_if (t_isN (xv 3)) (xd 4) (d_callB (CallR.or (call_min2 rfl) (cr_min rfl)) sem_min B.b_min (by decide +kernel) (pas_cons (xv 5) (pas_cons (vw (d_add (xv 4) (vw (d_fdiv (xv 3) (xv 6))))) pas_nil)))))
    (z_one (z_ret (d_add (xv 7) (vw (d_if (t_w (w_and (t_eq hu (xv 1) (vw ci)) (w_and1 (t_eq hu (xv 2) (vw ci))))) (d_item hu (xv 0) (vw ci)) ci)))))))
abbrev s_held_for : Stmt := topS 24
abbrev sc_N_held_for : List Str := ["plan", "gap", "clock", "word", "number"]
theorem sc_held_for : FnScope ["plan", "gap", "clock", "word", "number"] ["plan", "gap", "clock"] (defScope s_held_for) := ⟨rfl, rfl, rfl, by decide +kernel, rfl, by decide +kernel, by decide +kernel⟩
theorem ok_held_for {f : Addr} {fd : FuncData} (F : Fun K "held_for" "held_for" s_held_for f fd) (B : Blt mg) (G : Glb ⟨P, w, K⟩ mg) : FnOk P w K mg base CX0 1 f fd ["plan", "gap", "clock"] (spD ⟨P, w, K⟩ 3 F_held_for) :=
  fn_p (k := 0) F sc_held_for (fun _ _ h => h) fun cdv A outer s H E hr => by
    have hu := hr.units
    have nd := sc_held_for.nd
    exact (z_cons (z_asg (d_item hu (xv 0) (vw ci)) (g_t rfl (gs_c (g_n 3 nd) (gs_c (g_n 4 nd) gs_n))))
    (z_cons (z_if (t_w (w_or (t_eq hu (xv 3) (vw cs)) (w_or1 (t_w (w_and (t_ne hu (xv 3) (vw cs)) (w_and1 (t_isN (xv 1))))))))
    (z_one (z_ret ci))
    z_nil)
    (z_cons (z_if (t_eq hu (xv 3) (vw cs))
    (z_one (z_ret (d_if (t_ge (xv 1) (xv 4)) ci (d_neg (vw ci)))))
    z_nil)
    (z_cons (z_if (t_eq hu (xv 3) (vw cs))
    (z_one (z_ret (d_if (t_eq hu (xv 2) (vw ci)) ci (d_neg (vw ci)))))
    z_nil)
    (z_one (z_ret (d_callB (CallR.or (call_max2 rfl) (cr_max rfl)) sem_max B.b_max (by decide +kernel) (pas_cons (vw ci) (pas_cons (vw (d_fdiv (vw (d_sub (xv 4) (xv 1))) (vw ci))) pas_nil)))))))))
abbrev s_part_behind : Stmt := topS 25
abbrev sc_N_part_behind : List Str := ["plan", "number", "part", "ends", "gap", "clock", "mode", "stop", "count", "wait"]
theorem sc_part_behind : FnScope ["plan", "number", "part", "ends", "gap", "clock", "mode", "stop", "count", "wait"] ["plan", "number", "part", "ends", "gap", "clock"] (defScope s_part_behind) := ⟨rfl, rfl, rfl, by decide +kernel, rfl, by decide +kernel, by decide +kernel⟩
theorem ok_part_behind {f : Addr} {fd : FuncData} (F : Fun K "part_behind" "part_behind" s_part_behind f fd) (B : Blt mg) (G : Glb ⟨P, w, K⟩ mg) (c_held_for : Cal P w K mg base "held_for" 1 3 F_held_for) (c_stay_of : Cal P w K mg base "stay_of" 1 4 F_stay_of) : FnOk P w K mg base CX0 2 f fd ["plan", "number", "part", "ends", "gap", "clock"] (spD ⟨P, w, K⟩ 6 F_part_behind) :=
  fn_p (k := 1) F sc_part_behind (fun _ _ h => h) fun cdv A outer s H E hr => by
    have hu := hr.units
    have nd := sc_part_behind.nd
    exact (z_cons (z_asg (xd 2) (g_t rfl (gs_c (g_n 6 nd) (gs_c (g_n 7 nd) (gs_c (g_n 8 nd) gs_n)))))
    (z_cons (z_if (t_eq hu (xv 6) (vw (cg G.RIDES)))
    (z_one (z_ret (d_if (t_val (xd 3)) (d_tup (pas_cons (vw (cg G.STAYS)) (pas_cons (xv 7) (pas_cons (vw (c_call0 c_stay_of hr (by decide) (pas_cons (xv 0) (pas_cons (xv 1) (pas_cons (xv 7) (pas_cons (xv 4) pas_nil)))))) pas_nil)))) (d_tup (pas_cons (vw (cg G.RIDES)) (pas_cons (xv 7) (pas_cons (vw (d_add (xv 8) (vw ci))) pas_nil)))))))
    z_nil)
    (z_cons (z_if (t_gt (xv 8) (vw ci))
    (z_one (z_ret (d_tup (pas_cons (xv 6) (pas_cons (xv 7) (pas_cons (vw (d_sub (xv 8) (vw ci))) pas_nil))))))
    z_nil)
    (z_cons (z_set 9 nd (d_if (t_w (w_and (t_eq hu (xv 6) (vw (cg G.HELD))) (w_and1 (t_eq hu (vw (d_item hu (vw (d_item hu (xv 0) (vw ci))) (vw ci))) (vw cs))))) ci (c_call0 c_held_for hr (by decide) (pas_cons (xv 0) (pas_cons (xv 4) (pas_cons (xv 5) pas_nil))))))
    (z_cons (z_if (t_eq hu (xv 9) (vw ci))
    (z_one (z_ret (d_tup (pas_cons (vw (cg G.RIDES)) (pas_cons (vw (d_mod (vw (d_add (xv 7) (vw ci))) (vw (d_item hu (xv 0) (vw ci))))) (pas_cons (vw ci) pas_nil))))))
    z_nil)
    (z_one (z_ret (d_tup (pas_cons (vw (cg G.HELD)) (pas_cons (xv 7) (pas_cons (vw (d_callB (CallR.or (call_max2 rfl) (cr_max rfl)) sem_max B.b_max (by decide +kernel) (pas_cons (vw ci) (pas_cons (xv 9) pas_nil)))) pas_nil)))))))))))
abbrev s_passed : Stmt := topS 26
abbrev sc_N_passed : List Str := ["plan", "stand", "choice", "carriers", "since", "clock", "left", "parts", "leaves", "comes", "number", "part", "mode", "stop", "count", "gap", "later", "ticks", "old"]
theorem sc_passed : FnScope ["plan", "stand", "choice", "carriers", "since", "clock", "left", "parts", "leaves", "comes", "number", "part", "mode", "stop", "count", "gap", "later", "ticks", "old"] ["plan", "stand", "choice"] (defScope s_passed) := ⟨rfl, rfl, rfl, by decide +kernel, rfl, by decide +kernel, by decide +kernel⟩
theorem ok_passed {f : Addr} {fd : FuncData} (F : Fun K "passed" "passed" s_passed f fd) (B : Blt mg) (G : Glb ⟨P, w, K⟩ mg) (c_gap_of : Cal P w K mg base "gap_of" 1 3 F_gap_of) (c_part_behind : Cal P w K mg base "part_behind" 2 6 F_part_behind) : FnOk P w K mg base CX0 3 f fd ["plan", "stand", "choice"] (spD ⟨P, w, K⟩ 3 F_passed) :=
  fn_p (k := 2) F sc_passed (fun _ _ h => h) fun cdv A outer s H E hr => by
    have hu := hr.units
    have nd := sc_passed.nd
    exact (z_cons (z_asg (xd 1) (g_t rfl (gs_c (g_n 3 nd) (gs_c (g_n 4 nd) (gs_c (g_n 5 nd) gs_n)))))
    (z_cons (z_parT rfl (m_f (f_lst pas_nil) (m_f (f_lst pas_nil) (m_d (d_tup pas_nil) (m_d (d_tup pas_nil) m_n)))) (ns_c 6 nd (ns_c 7 nd (ns_c 8 nd (ns_c 9 nd ns_n)))))
    (z_cons (z_for PassesOwn.never rfl (i_enum B.b_enumerate (pas_cons (xv 3) pas_nil)) (g_t rfl (gs_c (g_n 10 nd) (gs_c (g_n 11 nd) gs_n)))
    (z_cons (z_asg (xd 11) (g_t rfl (gs_c (g_n 12 nd) (gs_c (g_n 13 nd) (gs_c (g_n 14 nd) gs_n)))))
    (z_cons (z_set 15 nd (c_call0 c_gap_of hr (by decide) (pas_cons (xv 4) (pas_cons (xv 6) (pas_cons (xv 13) pas_nil)))))
    (z_cons (z_set 16 nd (c_call0 c_part_behind hr (by decide) (pas_cons (xv 0) (pas_cons (xv 10) (pas_cons (xv 11) (pas_cons (vw (d_item hu (xv 2) (xv 10))) (pas_cons (xv 15) (pas_cons (xv 5) pas_nil))))))))
    (z_cons (z_if (t_w (w_and (t_eq hu (xv 12) (vw (cg G.RIDES))) (w_and1 (t_eq hu (vw (d_item hu (xv 16) (vw ci))) (vw (cg G.STAYS))))))
    (z_one (z_set 9 nd (d_add (xv 9) (vw (d_tup (pas_cons (vw (d_tup (pas_cons (xv 10) (pas_cons (xv 13) (pas_cons (xv 15) pas_nil))))) pas_nil))))))
    z_nil)
    (z_cons (z_if (t_w (w_and (t_ne hu (xv 12) (vw (cg G.RIDES))) (w_and1 (t_eq hu (vw (d_item hu (xv 16) (vw ci))) (vw (cg G.RIDES))))))
    (z_cons (z_set 8 nd (d_add (xv 8) (vw (d_tup (pas_cons (vw (d_tup (pas_cons (xv 10) (pas_cons (xv 13) (pas_cons (xv 15) pas_nil))))) pas_nil)))))
    (z_one (z_expr (vw (d_app 6 (xd 13))))))
    z_nil)
    (z_one (z_expr (vw (d_app 7 (xd 16)))))))))))
    (z_cons (z_lcD 17 (own := [("stop", 13), ("old", 18)]) rfl nd (i_enum B.b_enumerate (pas_cons (xv 4) pas_nil)) (blkOk_by (N := sc_N_passed) (sc := defScope s_passed) (own := [("stop", 13), ("old", 18)]) (by decide +kernel)) (fun _ _ _ _ _ => (g_t rfl (gs_c (g_n 13 nd) (gs_c (g_n 18 nd) gs_n)))) (fun _ _ _ _ _ => c_yes) (fun _ _ _ _ _ => (d_if (t_in hu (xv 13) (xv 6)) ci (d_if (t_isN (xv 18)) cn (d_add (xv 18) (vw ci))))))
    (z_cons (z_set 5 nd (d_if (t_eq hu (vw (d_item hu (vw (d_item hu (xv 0) (vw ci))) (vw ci))) (vw cs)) (d_mod (vw (d_add (xv 5) (vw ci))) (vw (d_item hu (vw (d_item hu (xv 0) (vw ci))) (vw ci)))) ci))
    (z_one (z_ret (d_tup (pas_cons (vw (d_tup (pas_cons (vw (d_callT call_tuple_of sem_tup B.b_tuple (by decide +kernel) (pas_cons (xv 7) pas_nil))) (pas_cons (vw (d_callT call_tuple_of sem_tup B.b_tuple (by decide +kernel) (pas_cons (xv 17) pas_nil))) (pas_cons (xv 5) pas_nil))))) (pas_cons (xv 8) (pas_cons (xv 9) pas_nil)))))))))))
abbrev s_ways_by : Stmt := topS 28
abbrev sc_N_ways_by : List Str := ["plan", "first", "found", "waiting", "at", "stand", "choice", "there"]
theorem sc_ways_by : FnScope ["plan", "first", "found", "waiting", "at", "stand", "choice", "there"] ["plan"] (defScope s_ways_by) := ⟨rfl, rfl, rfl, by decide +kernel, rfl, by decide +kernel, by decide +kernel⟩
theorem ok_ways_by {f : Addr} {fd : FuncData} (F : Fun K "ways_by" "ways_by" s_ways_by f fd) (B : Blt mg) (G : Glb ⟨P, w, K⟩ mg) (c_begin_of : Cal P w K mg base "begin_of" 1 1 F_begin_of) (c_choices_of : Cal P w K mg base "choices_of" 2 2 F_choices_of) (c_passed : Cal P w K mg base "passed" 3 3 F_passed) : FnOk P w K mg base CX0 4 f fd ["plan"] (spD ⟨P, w, K⟩ 1 F_ways_by) :=
  fn_p (k := 3) F sc_ways_by (fun _ _ h => h) fun cdv A outer s H E hr => by
    have hu := hr.units
    have nd := sc_ways_by.nd
    exact (z_cons (z_set 1 nd (c_call0 c_begin_of hr (by decide) (pas_cons (xv 0) pas_nil)))
    (z_cons (z_par3 (i := 2) (j := 3) (l := 4) rfl nd (m_f (f_disp1 hu (xd 1) (d_tup pas_nil)) (m_f (f_lst (pas_cons (xv 1) pas_nil)) (m_d ci m_n))))
    (z_cons (z_while PassesOwn.never (t_lt (xv 4) (vw (d_callB call_len sem_len B.b_len (by decide +kernel) (pas_cons (xv 3) pas_nil))))
    (z_cons (z_set 5 nd (d_item hu (xv 3) (xv 4)))
    (z_cons (z_set 4 nd (d_add (xv 4) (vw ci)))
    (z_one (z_for PassesOwn.never rfl (i_seq (c_call0 c_choices_of hr (by decide) (pas_cons (xv 0) (pas_cons (xv 5) pas_nil)))) (g_n 6 nd)
    (z_cons (z_set 7 nd (d_item hu (vw (c_call0 c_passed hr (by decide) (pas_cons (xv 0) (pas_cons (xv 5) (pas_cons (xv 6) pas_nil))))) (vw ci)))
    (z_one (z_if (t_nin hu (xv 7) (xv 2))
    (z_cons (z_storeN 2 hu (d_add (vw (d_item hu (xv 2) (xv 5))) (vw (d_tup (pas_cons (xv 6) pas_nil)))) (xd 7))
    (z_one (z_expr (vw (d_app 3 (xd 7))))))
    z_nil))))))))
    (z_one (z_retO (f := xV 2) 2 (by decide) (xv 2))))))
abbrev s_edges_by : Stmt := topS 29
abbrev sc_N_edges_by : List Str := ["plan", "found", "stand", "choice"]
theorem sc_edges_by : FnScope ["plan", "found", "stand", "choice"] ["plan"] (defScope s_edges_by) := ⟨rfl, rfl, rfl, by decide +kernel, rfl, by decide +kernel, by decide +kernel⟩
theorem ok_edges_by {f : Addr} {fd : FuncData} (F : Fun K "edges_by" "edges_by" s_edges_by f fd) (B : Blt mg) (G : Glb ⟨P, w, K⟩ mg) (c_ways_by : Cal P w K mg base "ways_by" 4 1 F_ways_by) (c_passed : Cal P w K mg base "passed" 3 3 F_passed) (c_choices_of : Cal P w K mg base "choices_of" 2 2 F_choices_of) : FnOk P w K mg base CX0 5 f fd ["plan"] (spD ⟨P, w, K⟩ 1 F_edges_by) :=
  fn_p (k := 4) F sc_edges_by (fun _ _ h => h) fun cdv A outer s H E hr => by
    have hu := hr.units
    have nd := sc_edges_by.nd
    exact (z_cons (z_own 1 nd f_newD)
    (z_cons (z_for PassesOwn.never rfl (i_Nk (c_call0 c_ways_by hr (by decide) (pas_cons (xv 0) pas_nil))) (g_n 2 nd)
    (z_one (z_storeN 1 hu (fr (f_lc (own := [("choice", 3)]) rfl nd (i_seq (c_call0 c_choices_of hr (by decide) (pas_cons (xv 0) (pas_cons (xv 2) pas_nil)))) (blkOk_by (N := sc_N_edges_by) (sc := defScope s_edges_by) (own := [("choice", 3)]) (by decide +kernel)) (fun _ _ _ _ _ => (g_n 3 nd)) (fun _ _ _ _ _ => c_yes) (fun _ _ _ _ _ => (d_add (vw (d_tup (pas_cons (xv 3) pas_nil))) (vw (c_call0 c_passed hr (by decide) (pas_cons (xv 0) (pas_cons (xv 2) (pas_cons (xv 3) pas_nil))))))))) (xd 2))))
    (z_one (z_retO (f := xV 1) 1 (by decide) (xv 1)))))
abbrev s_gaps_by : Stmt := topS 30
abbrev sc_N_gaps_by : List Str := ["plan", "found", "row", "choice", "there", "leaves", "comes", "number", "stop", "gap"]
theorem sc_gaps_by : FnScope ["plan", "found", "row", "choice", "there", "leaves", "comes", "number", "stop", "gap"] ["plan"] (defScope s_gaps_by) := ⟨rfl, rfl, rfl, by decide +kernel, rfl, by decide +kernel, by decide +kernel⟩
theorem ok_gaps_by {f : Addr} {fd : FuncData} (F : Fun K "gaps_by" "gaps_by" s_gaps_by f fd) (B : Blt mg) (G : Glb ⟨P, w, K⟩ mg) (c_edges_by : Cal P w K mg base "edges_by" 5 1 F_edges_by) : FnOk P w K mg base CX0 6 f fd ["plan"] (spD ⟨P, w, K⟩ 1 F_gaps_by) :=
  fn_p (k := 5) F sc_gaps_by (fun _ _ h => h) fun cdv A outer s H E hr => by
    have hu := hr.units
    have nd := sc_gaps_by.nd
    exact (z_cons (z_set 1 nd (fr (f_lst pas_nil)))
    (z_cons (z_for PassesOwn.never rfl (i_Nv (c_call0 c_edges_by hr (by decide) (pas_cons (xv 0) pas_nil))) (g_n 2 nd)
    (z_one (z_for PassesOwn.never rfl (i_seq (xd 2)) (g_t rfl (gs_c (g_n 3 nd) (gs_c (g_n 4 nd) (gs_c (g_n 5 nd) (gs_c (g_n 6 nd) gs_n)))))
    (z_one (z_set 1 nd (d_add (xv 1) (vw (fr (f_lc (own := [("number", 7), ("stop", 8), ("gap", 9)]) rfl nd (i_seq (xd 5)) (blkOk_by (N := sc_N_gaps_by) (sc := defScope s_gaps_by) (own := [("number", 7), ("stop", 8), ("gap", 9)]) (by decide +kernel)) (fun _ _ _ _ _ => (g_t rfl (gs_c (g_n 7 nd) (gs_c (g_n 8 nd) (gs_c (g_n 9 nd) gs_n))))) (fun _ _ _ _ _ => (c_if (t_w (w_and (t_notN (xv 9)) (w_and1 (t_nin hu (xv 9) (xv 1))))))) (fun _ _ _ _ _ => (xd 9)))))))))))
    (z_one (z_ret (xd 1)))))
abbrev s_waits_by : Stmt := topS 31
abbrev sc_N_waits_by : List Str := ["plan", "found", "row", "choice", "there", "leaves", "comes", "number", "stop", "gap"]
theorem sc_waits_by : FnScope ["plan", "found", "row", "choice", "there", "leaves", "comes", "number", "stop", "gap"] ["plan"] (defScope s_waits_by) := ⟨rfl, rfl, rfl, by decide +kernel, rfl, by decide +kernel, by decide +kernel⟩
theorem ok_waits_by {f : Addr} {fd : FuncData} (F : Fun K "waits_by" "waits_by" s_waits_by f fd) (B : Blt mg) (G : Glb ⟨P, w, K⟩ mg) (c_edges_by : Cal P w K mg base "edges_by" 5 1 F_edges_by) : FnOk P w K mg base CX0 6 f fd ["plan"] (spD ⟨P, w, K⟩ 1 F_waits_by) :=
  fn_p (k := 5) F sc_waits_by (fun _ _ h => h) fun cdv A outer s H E hr => by
    have hu := hr.units
    have nd := sc_waits_by.nd
    exact (z_cons (z_own 1 nd (f_rep (vw (fr (f_lst (pas_cons (vw ci) pas_nil)))) (vw (d_item hu (xv 0) (vw ci)))))
    (z_cons (z_for PassesOwn.never rfl (i_Nv (c_call0 c_edges_by hr (by decide) (pas_cons (xv 0) pas_nil))) (g_n 2 nd)
    (z_one (z_for PassesOwn.never rfl (i_seq (xd 2)) (g_t rfl (gs_c (g_n 3 nd) (gs_c (g_n 4 nd) (gs_c (g_n 5 nd) (gs_c (g_n 6 nd) gs_n)))))
    (z_one (z_for PassesOwn.never rfl (i_seq (xd 6)) (g_t rfl (gs_c (g_n 7 nd) (gs_c (g_n 8 nd) (gs_c (g_n 9 nd) gs_n))))
    (z_one (z_store 1 (d_callB (CallR.or (call_max2 rfl) (cr_max rfl)) sem_max B.b_max (by decide +kernel) (pas_cons (vw (d_item hu (xv 1) (xv 8))) (pas_cons (vw (d_if (t_isN (xv 9)) ci (xd 9))) pas_nil))) (xd 8))))))))
    (z_one (z_retO (f := xV 1) 1 (by decide) (xv 1)))))
abbrev s_gaps : Stmt := topS 32
abbrev sc_N_gaps : List Str := ["plan", "found"]
theorem sc_gaps : FnScope ["plan", "found"] ["plan"] (defScope s_gaps) := ⟨rfl, rfl, rfl, by decide +kernel, rfl, by decide +kernel, by decide +kernel⟩
theorem ok_gaps {f : Addr} {fd : FuncData} (F : Fun K "gaps" "gaps" s_gaps f fd) (B : Blt mg) (G : Glb ⟨P, w, K⟩ mg) (c_look_at_plan : Cal P w K mg base "look_at_plan" 4 1 F_look_at_plan) (c_gaps_by : Cal P w K mg base "gaps_by" 6 1 F_gaps_by) : FnOk P w K mg base CX0 7 f fd ["plan"] (spD ⟨P, w, K⟩ 1 F_gaps) :=
  fn_p (k := 6) F sc_gaps (fun _ _ h => h) fun cdv A outer s H E hr => by
    have hu := hr.units
    have nd := sc_gaps.nd
    exact (z_cons (z_expr (vw (c_call0 c_look_at_plan hr (by decide) (pas_cons (xv 0) pas_nil))))
    (z_cons (z_set 1 nd (c_call0 c_gaps_by hr (by decide) (pas_cons (xv 0) pas_nil)))
    (z_one (z_ret (d_tup (pas_cons (vw (d_callB (CallR.or (call_min2 rfl) (cr_min rfl)) sem_min B.b_min (by decide +kernel) (pas_cons (xv 1) pas_nil))) (pas_cons (vw (d_callB (CallR.or (call_max2 rfl) (cr_max rfl)) sem_max B.b_max (by decide +kernel) (pas_cons (xv 1) pas_nil))) pas_nil)))))))
abbrev s_first_gap : Stmt := topS 33
abbrev sc_N_first_gap : List Str := ["plan", "gap", "stand", "run", "choice", "number", "stop", "told"]
theorem sc_first_gap : FnScope ["plan", "gap", "stand", "run", "choice", "number", "stop", "told"] ["plan", "gap"] (defScope s_first_gap) := ⟨rfl, rfl, rfl, by decide +kernel, rfl, by decide +kernel, by decide +kernel⟩
theorem ok_first_gap {f : Addr} {fd : FuncData} (F : Fun K "first_gap" "first_gap" s_first_gap f fd) (B : Blt mg) (G : Glb ⟨P, w, K⟩ mg) (c_look_at_plan : Cal P w K mg base "look_at_plan" 4 1 F_look_at_plan) (c_look_at_number : Cal P w K mg base "look_at_number" 2 1 F_look_at_number) (c_choices_of : Cal P w K mg base "choices_of" 2 2 F_choices_of) (c_ways_by : Cal P w K mg base "ways_by" 4 1 F_ways_by) (c_passed : Cal P w K mg base "passed" 3 3 F_passed) : FnOk P w K mg base CX0 5 f fd ["plan", "gap"] (spD ⟨P, w, K⟩ 2 F_first_gap) :=
  fn_p (k := 4) F sc_first_gap (fun _ _ h => h) fun cdv A outer s H E hr => by
    have hu := hr.units
    have nd := sc_first_gap.nd
    exact (z_cons (z_expr (vw (c_call0 c_look_at_plan hr (by decide) (pas_cons (xv 0) pas_nil))))
    (z_cons (z_expr (vw (c_call0 c_look_at_number hr (by decide) (pas_cons (xv 1) pas_nil))))
    (z_cons (z_for PassesOwn.never rfl (i_Ni (c_call0 c_ways_by hr (by decide) (pas_cons (xv 0) pas_nil))) (g_t rfl (gs_c (g_n 2 nd) (gs_c (g_n 3 nd) gs_n)))
    (z_one (z_for PassesOwn.never rfl (i_seq (c_call0 c_choices_of hr (by decide) (pas_cons (xv 0) (pas_cons (xv 2) pas_nil)))) (g_n 4 nd)
    (z_one (z_if (t_in hu (xv 1) (vw (fr (f_lc (own := [("number", 5), ("stop", 6), ("told", 7)]) rfl nd (i_seq (d_item hu (vw (c_call0 c_passed hr (by decide) (pas_cons (xv 0) (pas_cons (xv 2) (pas_cons (xv 4) pas_nil))))) (vw ci))) (blkOk_by (N := sc_N_first_gap) (sc := defScope s_first_gap) (own := [("number", 5), ("stop", 6), ("told", 7)]) (by decide +kernel)) (fun _ _ _ _ _ => (g_t rfl (gs_c (g_n 5 nd) (gs_c (g_n 6 nd) (gs_c (g_n 7 nd) gs_n))))) (fun _ _ _ _ _ => c_yes) (fun _ _ _ _ _ => (xd 7))))))
    (z_one (z_ret (d_add (xv 3) (vw (d_tup (pas_cons (xv 4) pas_nil))))))
    z_nil)))))
    (z_one (z_ret cn)))))
abbrev s_longest_wait : Stmt := topS 34
abbrev sc_N_longest_wait : List Str := ["plan", "stop"]
theorem sc_longest_wait : FnScope ["plan", "stop"] ["plan", "stop"] (defScope s_longest_wait) := ⟨rfl, rfl, rfl, by decide +kernel, rfl, by decide +kernel, by decide +kernel⟩
theorem ok_longest_wait {f : Addr} {fd : FuncData} (F : Fun K "longest_wait" "longest_wait" s_longest_wait f fd) (B : Blt mg) (G : Glb ⟨P, w, K⟩ mg) (c_look_at_plan : Cal P w K mg base "look_at_plan" 4 1 F_look_at_plan) (c_look_at_stop : Cal P w K mg base "look_at_stop" 2 2 F_look_at_stop) (c_waits_by : Cal P w K mg base "waits_by" 6 1 F_waits_by) : FnOk P w K mg base CX0 7 f fd ["plan", "stop"] (spD ⟨P, w, K⟩ 2 F_longest_wait) :=
  fn_p (k := 6) F sc_longest_wait (fun _ _ h => h) fun cdv A outer s H E hr => by
    have hu := hr.units
    have nd := sc_longest_wait.nd
    exact (z_cons (z_expr (vw (c_call0 c_look_at_plan hr (by decide) (pas_cons (xv 0) pas_nil))))
    (z_cons (z_expr (vw (c_call0 c_look_at_stop hr (by decide) (pas_cons (xv 0) (pas_cons (xv 1) pas_nil)))))
    (z_one (z_ret (d_item hu (vw (c_call0 c_waits_by hr (by decide) (pas_cons (xv 0) pas_nil))) (xv 1))))))
abbrev s_times_by : Stmt := topS 36
abbrev sc_N_times_by : List Str := ["plan", "edges", "missing", "found", "row", "edge", "waiting", "done", "stand"]
theorem sc_times_by : FnScope ["plan", "edges", "missing", "found", "row", "edge", "waiting", "done", "stand"] ["plan", "edges"] (defScope s_times_by) := ⟨rfl, rfl, rfl, by decide +kernel, rfl, by decide +kernel, by decide +kernel⟩
theorem ok_times_by {f : Addr} {fd : FuncData} (F : Fun K "times_by" "times_by" s_times_by f fd) (B : Blt mg) (G : Glb ⟨P, w, K⟩ mg) : FnOk P w K mg base CX0 1 f fd ["plan", "edges"] (spD ⟨P, w, K⟩ 2 F_times_by) :=
  fn_p (k := 0) F sc_times_by (fun _ _ h => h) fun cdv A outer s H E hr => by
    have hu := hr.units
    have nd := sc_times_by.nd
    exact (z_cons (z_parT rfl (m_f (f_dcn (own := [("stand", 8)]) hu rfl nd (i_Nk (xd 1)) (blkOk_by (N := sc_N_times_by) (sc := defScope s_times_by) (own := [("stand", 8)]) (by decide +kernel)) (fun _ _ _ _ _ => (g_n 8 nd)) (fun _ _ _ _ _ => c_yes) (fun _ _ _ _ _ => (xd 8)) (fun _ _ _ _ _ => ci)) (m_f (f_dcn (own := [("stand", 8)]) hu rfl nd (i_Nk (xd 1)) (blkOk_by (N := sc_N_times_by) (sc := defScope s_times_by) (own := [("stand", 8)]) (by decide +kernel)) (fun _ _ _ _ _ => (g_n 8 nd)) (fun _ _ _ _ _ => c_yes) (fun _ _ _ _ _ => (xd 8)) (fun _ _ _ _ _ => ci)) m_n)) (ns_c 2 nd (ns_c 3 nd ns_n)))
    (z_cons (z_for PassesOwn.never rfl (i_Nv (xd 1)) (g_n 4 nd)
    (z_one (z_for PassesOwn.never rfl (i_seq (xd 4)) (g_n 5 nd)
    (z_one (z_storeN 2 hu (d_add (vw (d_item hu (xv 2) (vw (d_item hu (xv 5) (vw ci))))) (vw ci)) (d_item hu (xv 5) (vw ci)))))))
    (z_cons (z_lc 6 (own := [("stand", 8)]) rfl nd (i_Nk (xd 1)) (blkOk_by (N := sc_N_times_by) (sc := defScope s_times_by) (own := [("stand", 8)]) (by decide +kernel)) (fun _ _ _ _ _ => (g_n 8 nd)) (fun _ _ _ _ _ => (c_if (t_eq hu (vw (d_item hu (xv 2) (xv 8))) (vw ci)))) (fun _ _ _ _ _ => (xd 8)))
    (z_cons (z_own 7 nd f_newD)
    (z_cons (z_while PassesOwn.never (t_ne hu (xv 6) (vw (fr (f_lst pas_nil))))
    (z_cons (z_set 8 nd (d_pop 6))
    (z_cons (z_storeN 7 hu (d_item hu (xv 3) (xv 8)) (xd 8))
    (z_one (z_for PassesOwn.never rfl (i_seq (d_item hu (xv 1) (xv 8))) (g_n 5 nd)
    (z_cons (z_storeN 3 hu (d_callB (CallR.or (call_max2 rfl) (cr_max rfl)) sem_max B.b_max (by decide +kernel) (pas_cons (vw (d_item hu (xv 3) (vw (d_item hu (xv 5) (vw ci))))) (pas_cons (vw (d_add (vw (d_item hu (xv 3) (xv 8))) (vw ci))) pas_nil))) (d_item hu (xv 5) (vw ci)))
    (z_cons (z_storeN 2 hu (d_sub (vw (d_item hu (xv 2) (vw (d_item hu (xv 5) (vw ci))))) (vw ci)) (d_item hu (xv 5) (vw ci)))
    (z_one (z_if (t_eq hu (vw (d_item hu (xv 2) (vw (d_item hu (xv 5) (vw ci))))) (vw ci))
    (z_one (z_expr (vw (d_app 6 (d_item hu (xv 5) (vw ci))))))
    z_nil)))))))))
    (z_one (z_ret (fr (f_dcn (own := [("stand", 8)]) hu rfl nd (i_Nk (xd 1)) (blkOk_by (N := sc_N_times_by) (sc := defScope s_times_by) (own := [("stand", 8)]) (by decide +kernel)) (fun _ _ _ _ _ => (g_n 8 nd)) (fun _ _ _ _ _ => c_yes) (fun _ _ _ _ _ => (xd 8)) (fun _ _ _ _ _ => (d_nget1 hu (xv 7) (xd 8))))))))))))
abbrev s_settled_by : Stmt := topS 37
abbrev sc_N_settled_by : List Str := ["plan", "least", "edges", "times", "found", "stand", "row", "choice", "there", "leaves", "comes", "number", "stop", "gap"]
theorem sc_settled_by : FnScope ["plan", "least", "edges", "times", "found", "stand", "row", "choice", "there", "leaves", "comes", "number", "stop", "gap"] ["plan", "least"] (defScope s_settled_by) := ⟨rfl, rfl, rfl, by decide +kernel, rfl, by decide +kernel, by decide +kernel⟩
theorem ok_settled_by {f : Addr} {fd : FuncData} (F : Fun K "settled_by" "settled_by" s_settled_by f fd) (B : Blt mg) (G : Glb ⟨P, w, K⟩ mg) (c_edges_by : Cal P w K mg base "edges_by" 5 1 F_edges_by) (c_times_by : Cal P w K mg base "times_by" 1 2 F_times_by) : FnOk P w K mg base CX0 6 f fd ["plan", "least"] (spD ⟨P, w, K⟩ 2 F_settled_by) :=
  fn_p (k := 5) F sc_settled_by (fun _ _ h => h) fun cdv A outer s H E hr => by
    have hu := hr.units
    have nd := sc_settled_by.nd
    exact (z_cons (z_set 2 nd (c_call0 c_edges_by hr (by decide) (pas_cons (xv 0) pas_nil)))
    (z_cons (z_par2 (i := 3) (j := 4) rfl nd (m_d (c_call0 c_times_by hr (by decide) (pas_cons (xv 0) (pas_cons (xv 2) pas_nil))) (m_d ci m_n)))
    (z_cons (z_for PassesOwn.never rfl (i_Ni (xd 2)) (g_t rfl (gs_c (g_n 5 nd) (gs_c (g_n 6 nd) gs_n)))
    (z_one (z_for PassesOwn.never rfl (i_seq (xd 6)) (g_t rfl (gs_c (g_n 7 nd) (gs_c (g_n 8 nd) (gs_c (g_n 9 nd) (gs_c (g_n 10 nd) gs_n)))))
    (z_one (z_if (t_val (d_callB (cr_any rfl) sem_any B.b_any (by decide +kernel) (pas_cons (vw (fr (f_lc (own := [("number", 11), ("stop", 12), ("gap", 13)]) rfl nd (i_seq (xd 9)) (blkOk_by (N := sc_N_settled_by) (sc := defScope s_settled_by) (own := [("number", 11), ("stop", 12), ("gap", 13)]) (by decide +kernel)) (fun _ _ _ _ _ => (g_t rfl (gs_c (g_n 11 nd) (gs_c (g_n 12 nd) (gs_c (g_n 13 nd) gs_n))))) (fun _ _ _ _ _ => c_yes) (fun _ _ _ _ _ => (d_and (d_notN (xv 13)) (d_one (d_lt (xv 13) (xv 1)))))))) pas_nil)))
    (z_cons (z_if (t_isN (vw (d_item hu (xv 3) (xv 5))))
    (z_one (z_ret cn))
    z_nil)
    (z_one (z_set 4 nd (d_callB (CallR.or (call_max2 rfl) (cr_max rfl)) sem_max B.b_max (by decide +kernel) (pas_cons (xv 4) (pas_cons (vw (d_add (vw (d_item hu (xv 3) (xv 5))) (vw ci))) pas_nil))))))
    z_nil)))))
    (z_one (z_ret (xd 4))))))
abbrev s_settles : Stmt := topS 38
abbrev sc_N_settles : List Str := ["plan", "least"]
theorem sc_settles : FnScope ["plan", "least"] ["plan", "least"] (defScope s_settles) := ⟨rfl, rfl, rfl, by decide +kernel, rfl, by decide +kernel, by decide +kernel⟩
theorem ok_settles {f : Addr} {fd : FuncData} (F : Fun K "settles" "settles" s_settles f fd) (B : Blt mg) (G : Glb ⟨P, w, K⟩ mg) (c_look_at_plan : Cal P w K mg base "look_at_plan" 4 1 F_look_at_plan) (c_look_at_number : Cal P w K mg base "look_at_number" 2 1 F_look_at_number) (c_settled_by : Cal P w K mg base "settled_by" 6 2 F_settled_by) : FnOk P w K mg base CX0 7 f fd ["plan", "least"] (spD ⟨P, w, K⟩ 2 F_settles) :=
  fn_p (k := 6) F sc_settles (fun _ _ h => h) fun cdv A outer s H E hr => by
    have hu := hr.units
    have nd := sc_settles.nd
    exact (z_cons (z_expr (vw (c_call0 c_look_at_plan hr (by decide) (pas_cons (xv 0) pas_nil))))
    (z_cons (z_expr (vw (c_call0 c_look_at_number hr (by decide) (pas_cons (xv 1) pas_nil))))
    (z_one (z_ret (c_call0 c_settled_by hr (by decide) (pas_cons (xv 0) (pas_cons (xv 1) pas_nil)))))))
abbrev s_law_spring : Stmt := topS 40
abbrev sc_N_law_spring : List Str := ["script", "at", "cell", "mixed"]
theorem sc_law_spring : FnScope ["script", "at", "cell", "mixed"] ["script", "at"] (defScope s_law_spring) := ⟨rfl, rfl, rfl, by decide +kernel, rfl, by decide +kernel, by decide +kernel⟩
theorem ok_law_spring {f : Addr} {fd : FuncData} (F : Fun K "_law_spring" "_law_spring" s_law_spring f fd) (B : Blt mg) (G : Glb ⟨P, w, K⟩ mg) : FnOk P w K mg base CX0 1 f fd ["script", "at"] (spN ⟨P, w, K⟩ 2 F_law_spring) :=
  fn_n (k := 0) F sc_law_spring fun cdv A outer s H E hr => by
    have hu := hr.units
    have nd := sc_law_spring.nd
    exact (n_cons (z_set 2 nd ci)
    (n_cons (z_if (t_lt (xv 1) (vw (d_callB call_len sem_len B.b_len (by decide +kernel) (pas_cons (xv 0) pas_nil))))
    (z_one (z_set 2 nd (d_callB call_abs sem_abs B.b_abs (by decide +kernel) (pas_cons (vw (d_item hu (xv 0) (xv 1))) pas_nil))))
    z_nil)
    (n_cons (z_set 3 nd (d_mod (vw (d_callT call_int1 sem_int B.b_int (by decide +kernel) (pas_cons (vw (d_add (vw (d_add (vw (d_mul (xv 2) (vw ci))) (vw (d_mul (vw ci) (xv 1))))) (vw ci))) pas_nil))) (vw ci)))
    (n_ret (f_lst (pas_cons (vw (d_if (t_ge (xv 2) (vw (d_pow (vw ci) (vw ci)))) (xd 2) ci)) (pas_cons (xv 3) pas_nil)))))))
abbrev s_law_pick : Stmt := topS 41
abbrev sc_N_law_pick : List Str := ["spring", "many", "digit"]
theorem sc_law_pick : FnScope ["spring", "many", "digit"] ["spring", "many"] (defScope s_law_pick) := ⟨rfl, rfl, rfl, by decide +kernel, rfl, by decide +kernel, by decide +kernel⟩
theorem ok_law_pick {f : Addr} {fd : FuncData} (F : Fun K "_law_pick" "_law_pick" s_law_pick f fd) (B : Blt mg) (G : Glb ⟨P, w, K⟩ mg) : FnOk P w K mg base CX0 1 f fd ["spring", "many"] (spD ⟨P, w, K⟩ 2 F_law_pick) :=
  fn_p (k := 0) F sc_law_pick (fun _ _ h => h) fun cdv A outer s H E hr => by
    have hu := hr.units
    have nd := sc_law_pick.nd
    exact (z_cons (z_if (t_gt (vw (d_item hu (xv 0) (vw ci))) (vw ci))
    (z_cons (z_set 2 nd (d_mod (vw (d_callT call_int1 sem_int B.b_int (by decide +kernel) (pas_cons (vw (d_item hu (xv 0) (vw ci))) pas_nil))) (xv 1)))
    (z_cons (z_store 0 (d_fdiv (vw (d_item hu (xv 0) (vw ci))) (xv 1)) ci)
    (z_one (z_ret (xd 2)))))
    z_nil)
    (z_cons (z_store 0 (d_mod (vw (d_callT call_int1 sem_int B.b_int (by decide +kernel) (pas_cons (vw (d_add (vw (d_mul (vw (d_item hu (xv 0) (vw ci))) (vw ci))) (vw ci))) pas_nil))) (vw ci)) ci)
    (z_one (z_ret (d_mod (vw (d_callT call_int1 sem_int B.b_int (by decide +kernel) (pas_cons (vw (d_fdiv (vw (d_item hu (xv 0) (vw ci))) (vw ci))) pas_nil))) (xv 1))))))
abbrev s_law_plan : Stmt := topS 44
abbrev sc_N_law_plan : List Str := ["spring", "stops", "many", "low", "ride", "least", "stay", "word", "number", "hold"]
theorem sc_law_plan : FnScope ["spring", "stops", "many", "low", "ride", "least", "stay", "word", "number", "hold"] ["spring", "stops"] (defScope s_law_plan) := ⟨rfl, rfl, rfl, by decide +kernel, rfl, by decide +kernel, by decide +kernel⟩
theorem ok_law_plan {f : Addr} {fd : FuncData} (F : Fun K "_law_plan" "_law_plan" s_law_plan f fd) (B : Blt mg) (G : Glb ⟨P, w, K⟩ mg) (c_law_pick : Cal P w K mg base "_law_pick" 1 2 F_law_pick) : FnOk P w K mg base CX0 2 f fd ["spring", "stops"] (spD ⟨P, w, K⟩ 2 F_law_plan) :=
  fn_p (k := 1) F sc_law_plan (fun _ _ h => h) fun cdv A outer s H E hr => by
    have hu := hr.units
    have nd := sc_law_plan.nd
    exact (z_cons (z_set 2 nd (d_add (vw ci) (vw (c_call1 c_law_pick hr (by decide) (pas_cons (xv 0) (pas_cons (vw (d_sub (xv 1) (vw ci))) pas_nil))))))
    (z_cons (z_set 3 nd (d_add (vw ci) (vw (d_item hu (vw (fr (f_lst (pas_cons (vw ci) (pas_cons (vw ci) (pas_cons (vw ci) pas_nil)))))) (vw (c_call1 c_law_pick hr (by decide) (pas_cons (xv 0) (pas_cons (vw ci) pas_nil))))))))
    (z_cons (z_set 4 nd (d_tup (pas_cons (xv 3) (pas_cons (vw (d_callB (CallR.or (call_min2 rfl) (cr_min rfl)) sem_min B.b_min (by decide +kernel) (pas_cons (vw ci) (pas_cons (vw (d_add (xv 3) (vw (d_item hu (vw (fr (f_lst (pas_cons (vw ci) (pas_cons (vw ci) (pas_cons (vw ci) pas_nil)))))) (vw (c_call1 c_law_pick hr (by decide) (pas_cons (xv 0) (pas_cons (vw ci) pas_nil)))))))) pas_nil)))) pas_nil))))
    (z_cons (z_set 5 nd (d_add (vw ci) (vw (d_item hu (vw (fr (f_lst (pas_cons (vw ci) (pas_cons (vw ci) (pas_cons (vw ci) pas_nil)))))) (vw (c_call1 c_law_pick hr (by decide) (pas_cons (xv 0) (pas_cons (vw ci) pas_nil))))))))
    (z_cons (z_set 6 nd (d_tup (pas_cons (xv 5) (pas_cons (vw (d_callB (CallR.or (call_min2 rfl) (cr_min rfl)) sem_min B.b_min (by decide +kernel) (pas_cons (vw ci) (pas_cons (vw (d_add (xv 5) (vw (c_call1 c_law_pick hr (by decide) (pas_cons (xv 0) (pas_cons (vw ci) pas_nil)))))) pas_nil)))) (pas_cons (vw (d_add (vw ci) (vw (c_call1 c_law_pick hr (by decide) (pas_cons (xv 0) (pas_cons (vw ci) pas_nil)))))) pas_nil)))))
    (z_cons (z_set 7 nd (d_item hu (vw (fr (f_lst (pas_cons (vw cs) (pas_cons (vw cs) (pas_cons (vw cs) (pas_cons (vw cs) (pas_cons (vw cs) pas_nil)))))))) (vw (c_call1 c_law_pick hr (by decide) (pas_cons (xv 0) (pas_cons (vw ci) pas_nil))))))
    (z_cons (z_set 8 nd (fr (f_disp (fs := [((kD (.str "none")), (kD (.int 0))), ((kD (.str "gap")), (binD addG (vD (kD (.int 1))) (vD (cl1 F_law_pick (aC (xV 0) (aC (vD (kD (.int 6))) aN)))))), ((kD (.str "half")), (binD addG (vD (kD (.int 1))) (vD (cl1 F_law_pick (aC (xV 0) (aC (vD (kD (.int 6))) aN))))))]) (pp_c cs ci (pp_c cs (d_add (vw ci) (vw (c_call1 c_law_pick hr (by decide) (pas_cons (xv 0) (pas_cons (vw ci) pas_nil))))) (pp_c cs (d_add (vw ci) (vw (c_call1 c_law_pick hr (by decide) (pas_cons (xv 0) (pas_cons (vw ci) pas_nil))))) pp_n))))))
    (z_cons (z_set 9 nd (d_tup (pas_cons (xv 7) (pas_cons (vw (d_get2 hu (xv 8) (xd 7) (d_add (vw ci) (vw (c_call1 c_law_pick hr (by decide) (pas_cons (xv 0) (pas_cons (vw ci) pas_nil))))))) pas_nil))))
    (z_one (z_ret (d_tup (pas_cons (xv 2) (pas_cons (xv 4) (pas_cons (xv 6) (pas_cons (vw (d_item hu (vw (fr (f_lst (pas_cons (vw ci) (pas_cons (vw ci) (pas_cons (vw ci) (pas_cons (vw ci) pas_nil))))))) (vw (c_call1 c_law_pick hr (by decide) (pas_cons (xv 0) (pas_cons (vw ci) pas_nil)))))) (pas_cons (xv 9) (pas_cons (vw (c_call1 c_law_pick hr (by decide) (pas_cons (xv 0) (pas_cons (xv 2) pas_nil)))) pas_nil)))))))))))))))))
abbrev s_law_first : Stmt := topS 45
abbrev sc_N_law_first : List Str := ["plan"]
theorem sc_law_first : FnScope ["plan"] ["plan"] (defScope s_law_first) := ⟨rfl, rfl, rfl, by decide +kernel, rfl, by decide +kernel, by decide +kernel⟩
theorem ok_law_first {f : Addr} {fd : FuncData} (F : Fun K "_law_first" "_law_first" s_law_first f fd) (B : Blt mg) (G : Glb ⟨P, w, K⟩ mg) : FnOk P w K mg base CX0 1 f fd ["plan"] (spD ⟨P, w, K⟩ 1 F_law_first) :=
  fn_p (k := 0) F sc_law_first (fun _ _ h => h) fun cdv A outer s H E hr => by
    have hu := hr.units
    have nd := sc_law_first.nd
    exact (z_one (z_ret (d_tup (pas_cons (vw (d_tup (pas_cons (vw (d_tup (pas_cons (vw cs) (pas_cons (vw ci) (pas_cons (vw ci) pas_nil))))) (pas_cons (vw (d_tup (pas_cons (vw cs) (pas_cons (vw (d_item hu (xv 0) (vw ci))) (pas_cons (vw ci) pas_nil))))) pas_nil)))) (pas_cons (vw (d_mul (vw (d_tup (pas_cons (vw cn) pas_nil))) (vw (d_item hu (xv 0) (vw ci))))) (pas_cons (vw ci) pas_nil))))))
abbrev s_law_options : Stmt := topS 46
abbrev sc_N_law_options : List Str := ["plan", "part", "ridden"]
theorem sc_law_options : FnScope ["plan", "part", "ridden"] ["plan", "part"] (defScope s_law_options) := ⟨rfl, rfl, rfl, by decide +kernel, rfl, by decide +kernel, by decide +kernel⟩
theorem ok_law_options {f : Addr} {fd : FuncData} (F : Fun K "_law_options" "_law_options" s_law_options f fd) (B : Blt mg) (G : Glb ⟨P, w, K⟩ mg) : FnOk P w K mg base CX0 1 f fd ["plan", "part"] (spD ⟨P, w, K⟩ 2 F_law_options) :=
  fn_p (k := 0) F sc_law_options (fun _ _ h => h) fun cdv A outer s H E hr => by
    have hu := hr.units
    have nd := sc_law_options.nd
    exact (z_cons (z_if (t_eq hu (vw (d_item hu (xv 1) (vw ci))) (vw cs))
    (z_cons (z_set 2 nd (d_add (vw (d_item hu (xv 1) (vw ci))) (vw ci)))
    (z_one (z_ret (d_add (vw (d_mul (vw (fr (f_lst (pas_cons (vw cb) pas_nil)))) (vw (d_callT call_int1 sem_int B.b_int (by decide +kernel) (pas_cons (vw (d_ne hu (xv 2) (vw (d_item hu (vw (d_item hu (xv 0) (vw ci))) (vw ci))))) pas_nil))))) (vw (d_mul (vw (fr (f_lst (pas_cons (vw cb) pas_nil)))) (vw (d_callT call_int1 sem_int B.b_int (by decide +kernel) (pas_cons (vw (d_le (vw (d_item hu (vw (d_item hu (xv 0) (vw ci))) (vw ci))) (xv 2))) pas_nil)))))))))
    z_nil)
    (z_one (z_ret (fr (f_lst (pas_cons (vw cb) pas_nil))))))
abbrev s_law_choices : Stmt := topS 47
abbrev sc_N_law_choices : List Str := ["plan", "stand", "found", "one", "other"]
theorem sc_law_choices : FnScope ["plan", "stand", "found", "one", "other"] ["plan", "stand"] (defScope s_law_choices) := ⟨rfl, rfl, rfl, by decide +kernel, rfl, by decide +kernel, by decide +kernel⟩
theorem ok_law_choices {f : Addr} {fd : FuncData} (F : Fun K "_law_choices" "_law_choices" s_law_choices f fd) (B : Blt mg) (G : Glb ⟨P, w, K⟩ mg) (c_law_options : Cal P w K mg base "_law_options" 1 2 F_law_options) : FnOk P w K mg base CX0 2 f fd ["plan", "stand"] (spD ⟨P, w, K⟩ 2 F_law_choices) :=
  fn_p (k := 1) F sc_law_choices (fun _ _ h => h) fun cdv A outer s H E hr => by
    have hu := hr.units
    have nd := sc_law_choices.nd
    exact (z_cons (z_set 2 nd (fr (f_lst pas_nil)))
    (z_cons (z_for PassesOwn.never rfl (i_seq (c_call0 c_law_options hr (by decide) (pas_cons (xv 0) (pas_cons (vw (d_item hu (vw (d_item hu (xv 1) (vw ci))) (vw ci))) pas_nil)))) (g_n 3 nd)
    (z_one (z_set 2 nd (d_add (xv 2) (vw (fr (f_lc (own := [("other", 4)]) rfl nd (i_seq (c_call0 c_law_options hr (by decide) (pas_cons (xv 0) (pas_cons (vw (d_item hu (vw (d_item hu (xv 1) (vw ci))) (vw ci))) pas_nil)))) (blkOk_by (N := sc_N_law_choices) (sc := defScope s_law_choices) (own := [("other", 4)]) (by decide +kernel)) (fun _ _ _ _ _ => (g_n 4 nd)) (fun _ _ _ _ _ => c_yes) (fun _ _ _ _ _ => (d_tup (pas_cons (xv 3) (pas_cons (xv 4) pas_nil)))))))))))
    (z_one (z_ret (xd 2)))))
abbrev s_law_wait : Stmt := topS 48
abbrev sc_N_law_wait : List Str := ["plan", "gap", "clock", "word", "number", "lacks"]
theorem sc_law_wait : FnScope ["plan", "gap", "clock", "word", "number", "lacks"] ["plan", "gap", "clock"] (defScope s_law_wait) := ⟨rfl, rfl, rfl, by decide +kernel, rfl, by decide +kernel, by decide +kernel⟩
theorem ok_law_wait {f : Addr} {fd : FuncData} (F : Fun K "_law_wait" "_law_wait" s_law_wait f fd) (B : Blt mg) (G : Glb ⟨P, w, K⟩ mg) : FnOk P w K mg base CX0 1 f fd ["plan", "gap", "clock"] (spD ⟨P, w, K⟩ 3 F_law_wait) :=
  fn_p (k := 0) F sc_law_wait (fun _ _ h => h) fun cdv A outer s H E hr => by
    have hu := hr.units
    have nd := sc_law_wait.nd
    exact (z_cons (z_asg (d_item hu (xv 0) (vw ci)) (g_t rfl (gs_c (g_n 3 nd) (gs_c (g_n 4 nd) gs_n))))
    (z_cons (z_if (t_eq hu (xv 3) (vw cs))
    (z_one (z_ret (d_if (t_eq hu (xv 2) (vw ci)) cn ci)))
    z_nil)
    (z_cons (z_if (t_w (w_or (t_eq hu (xv 3) (vw cs)) (w_or1 (t_isN (xv 1)))))
    (z_one (z_ret cn))
    z_nil)
    (z_cons (z_if (t_eq hu (xv 3) (vw cs))
    (z_one (z_ret (d_if (t_le (xv 4) (xv 1)) cn ci)))
    z_nil)
    (z_cons (z_set 5 nd (d_sub (xv 4) (xv 1)))
    (z_one (z_ret (d_if (t_gt (xv 5) (vw ci)) (d_fdiv (xv 5) (vw ci)) cn))))))))
abbrev s_law_moved : Stmt := topS 49
abbrev sc_N_law_moved : List Str := ["plan", "number", "part", "ends", "gap", "clock", "mode", "stop", "count", "least", "most", "grow", "length", "wait"]
theorem sc_law_moved : FnScope ["plan", "number", "part", "ends", "gap", "clock", "mode", "stop", "count", "least", "most", "grow", "length", "wait"] ["plan", "number", "part", "ends", "gap", "clock"] (defScope s_law_moved) := ⟨rfl, rfl, rfl, by decide +kernel, rfl, by decide +kernel, by decide +kernel⟩
theorem ok_law_moved {f : Addr} {fd : FuncData} (F : Fun K "_law_moved" "_law_moved" s_law_moved f fd) (B : Blt mg) (G : Glb ⟨P, w, K⟩ mg) (c_law_wait : Cal P w K mg base "_law_wait" 1 3 F_law_wait) : FnOk P w K mg base CX0 2 f fd ["plan", "number", "part", "ends", "gap", "clock"] (spD ⟨P, w, K⟩ 6 F_law_moved) :=
  fn_p (k := 1) F sc_law_moved (fun _ _ h => h) fun cdv A outer s H E hr => by
    have hu := hr.units
    have nd := sc_law_moved.nd
    exact (z_cons (z_asg (xd 2) (g_t rfl (gs_c (g_n 6 nd) (gs_c (g_n 7 nd) (gs_c (g_n 8 nd) gs_n)))))
    (z_cons (z_if (t_w (w_and (t_eq hu (xv 6) (vw cs)) (w_and1 (t_not (t_val (xd 3))))))
    (z_one (z_ret (d_tup (pas_cons (vw cs) (pas_cons (xv 7) (pas_cons (vw (d_add (xv 8) (vw ci))) pas_nil))))))
    z_nil)
    (z_cons (z_if (t_eq hu (xv 6) (vw cs))
    (z_cons (z_asg (d_item hu (xv 0) (vw ci)) (g_t rfl (gs_c (g_n 9 nd) (gs_c (g_n 10 nd) (gs_c (g_n 11 nd) gs_n)))))
    (z_cons (z_set 12 nd (d_if (t_isN (xv 4)) (xd 9) (d_callB (CallR.or (call_min2 rfl) (cr_min rfl)) sem_min B.b_min (by decide +kernel) (pas_cons (vw (d_add (xv 9) (vw (d_fdiv (xv 4) (xv 11))))) (pas_cons (xv 10) pas_nil)))))
    (z_one (z_ret (d_tup (pas_cons (vw cs) (pas_cons (xv 7) (pas_cons (vw (d_add (xv 12) (vw (d_mul (vw (d_item hu (xv 0) (vw ci))) (vw (d_callT call_int1 sem_int B.b_int (by decide +kernel) (pas_cons (vw (d_eq hu (vw (d_tup (pas_cons (xv 1) (pas_cons (xv 7) pas_nil)))) (vw (d_tup (pas_cons (vw ci) (pas_cons (vw ci) pas_nil)))))) pas_nil))))))) pas_nil))))))))
    z_nil)
    (z_cons (z_if (t_gt (xv 8) (vw ci))
    (z_one (z_ret (d_tup (pas_cons (xv 6) (pas_cons (xv 7) (pas_cons (vw (d_sub (xv 8) (vw ci))) pas_nil))))))
    z_nil)
    (z_cons (z_set 13 nd (c_call0 c_law_wait hr (by decide) (pas_cons (xv 0) (pas_cons (xv 4) (pas_cons (xv 5) pas_nil)))))
    (z_cons (z_if (t_w (w_or (t_isN (xv 13)) (w_or1 (t_w (w_and (t_eq hu (xv 6) (vw cs)) (w_and1 (t_eq hu (vw (d_item hu (vw (d_item hu (xv 0) (vw ci))) (vw ci))) (vw cs))))))))
    (z_one (z_ret (d_tup (pas_cons (vw cs) (pas_cons (vw (d_if (t_eq hu (vw (d_add (xv 7) (vw ci))) (vw (d_item hu (xv 0) (vw ci)))) ci (d_add (xv 7) (vw ci)))) (pas_cons (vw ci) pas_nil))))))
    z_nil)
    (z_one (z_ret (d_tup (pas_cons (vw cs) (pas_cons (xv 7) (pas_cons (xv 13) pas_nil))))))))))))
abbrev s_law_tick : Stmt := topS 50
abbrev sc_N_law_tick : List Str := ["plan", "stand", "choice", "parts", "since", "clock", "now", "gone", "came", "later", "number", "mode", "stop", "count", "gap", "beat", "old"]
theorem sc_law_tick : FnScope ["plan", "stand", "choice", "parts", "since", "clock", "now", "gone", "came", "later", "number", "mode", "stop", "count", "gap", "beat", "old"] ["plan", "stand", "choice"] (defScope s_law_tick) := ⟨rfl, rfl, rfl, by decide +kernel, rfl, by decide +kernel, by decide +kernel⟩
theorem ok_law_tick {f : Addr} {fd : FuncData} (F : Fun K "_law_tick" "_law_tick" s_law_tick f fd) (B : Blt mg) (G : Glb ⟨P, w, K⟩ mg) (c_law_moved : Cal P w K mg base "_law_moved" 2 6 F_law_moved) : FnOk P w K mg base CX0 3 f fd ["plan", "stand", "choice"] (spD ⟨P, w, K⟩ 3 F_law_tick) :=
  fn_p (k := 2) F sc_law_tick (fun _ _ h => h) fun cdv A outer s H E hr => by
    have hu := hr.units
    have nd := sc_law_tick.nd
    exact (z_cons (z_asg (xd 1) (g_t rfl (gs_c (g_n 3 nd) (gs_c (g_n 4 nd) (gs_c (g_n 5 nd) gs_n)))))
    (z_cons (z_parT rfl (m_f (f_callT call_list_of sem_list B.b_list (by decide +kernel) (pas_cons (xv 4) pas_nil)) (m_f (f_lst pas_nil) (m_f (f_lst pas_nil) (m_f (f_lst pas_nil) m_n)))) (ns_c 6 nd (ns_c 7 nd (ns_c 8 nd (ns_c 9 nd ns_n)))))
    (z_cons (z_for PassesOwn.never rfl (i_seq (fr (f_lst (pas_cons (vw ci) (pas_cons (vw ci) pas_nil))))) (g_n 10 nd)
    (z_cons (z_asg (d_item hu (xv 3) (xv 10)) (g_t rfl (gs_c (g_n 11 nd) (gs_c (g_n 12 nd) (gs_c (g_n 13 nd) gs_n)))))
    (z_cons (z_set 14 nd (d_if (t_isN (vw (d_item hu (xv 6) (xv 12)))) cn (d_add (vw (d_item hu (xv 6) (xv 12))) (vw ci))))
    (z_cons (z_expr (vw (d_app 9 (c_call0 c_law_moved hr (by decide) (pas_cons (xv 0) (pas_cons (xv 10) (pas_cons (vw (d_item hu (xv 3) (xv 10))) (pas_cons (vw (d_item hu (xv 2) (xv 10))) (pas_cons (xv 14) (pas_cons (xv 5) pas_nil))))))))))
    (z_cons (z_if (t_w (w_and (t_ne hu (xv 11) (vw cs)) (w_and1 (t_eq hu (vw (d_item hu (vw (d_item hu (xv 9) (vw (d_neg (vw ci))))) (vw ci))) (vw cs)))))
    (z_cons (z_expr (vw (d_app 7 (d_tup (pas_cons (xv 10) (pas_cons (xv 12) (pas_cons (xv 14) pas_nil)))))))
    (z_one (z_store 6 (d_neg (vw ci)) (xd 12))))
    z_nil)
    (z_one (z_if (t_w (w_and (t_eq hu (xv 11) (vw cs)) (w_and1 (t_val (d_item hu (xv 2) (xv 10))))))
    (z_one (z_expr (vw (d_app 8 (d_tup (pas_cons (xv 10) (pas_cons (xv 12) (pas_cons (xv 14) pas_nil))))))))
    z_nil)))))))
    (z_cons (z_frz 6 (by decide) (z_set 6 nd (d_callT call_tuple_of sem_tup B.b_tuple (by decide +kernel) (pas_cons (vw (fr (f_lc (own := [("old", 16)]) rfl nd (i_seq (xd 6)) (blkOk_by (N := sc_N_law_tick) (sc := defScope s_law_tick) (own := [("old", 16)]) (by decide +kernel)) (fun _ _ _ _ _ => (g_n 16 nd)) (fun _ _ _ _ _ => c_yes) (fun _ _ _ _ _ => (d_if (t_isN (xv 16)) cn (d_add (xv 16) (vw ci))))))) pas_nil))))
    (z_cons (z_set 15 nd (d_if (t_eq hu (vw (d_item hu (vw (d_item hu (xv 0) (vw ci))) (vw ci))) (vw cs)) (d_mod (vw (d_add (xv 5) (vw ci))) (vw (d_item hu (vw (d_item hu (xv 0) (vw ci))) (vw ci)))) ci))
    (z_one (z_ret (d_tup (pas_cons (vw (d_tup (pas_cons (vw (d_callT call_tuple_of sem_tup B.b_tuple (by decide +kernel) (pas_cons (xv 9) pas_nil))) (pas_cons (xv 6) (pas_cons (xv 15) pas_nil))))) (pas_cons (vw (d_callT call_tuple_of sem_tup B.b_tuple (by decide +kernel) (pas_cons (xv 7) pas_nil))) (pas_cons (vw (d_callT call_tuple_of sem_tup B.b_tuple (by decide +kernel) (pas_cons (xv 8) pas_nil))) pas_nil)))))))))))
abbrev s_law : Stmt := topS 51
abbrev sc_N_law : List Str := ["script", "at", "spring", "plan", "low", "high", "waits", "least", "quiet", "soon", "turn", "stand", "tick", "rows", "gone", "came", "number", "stop", "gap", "run"]
theorem sc_law : FnScope ["script", "at", "spring", "plan", "low", "high", "waits", "least", "quiet", "soon", "turn", "stand", "tick", "rows", "gone", "came", "number", "stop", "gap", "run"] ["script"] (defScope s_law) := ⟨rfl, rfl, rfl, by decide +kernel, rfl, by decide +kernel, by decide +kernel⟩
theorem ok_law {f : Addr} {fd : FuncData} (F : Fun K "law" "law" s_law f fd) (B : Blt mg) (G : Glb ⟨P, w, K⟩ mg) (c_law_spring : CalN P w K mg base "_law_spring" 1 2 F_law_spring) (c_law_plan : Cal P w K mg base "_law_plan" 2 2 F_law_plan) (c_gaps : Cal P w K mg base "gaps" 7 1 F_gaps) (c_settles : Cal P w K mg base "settles" 7 2 F_settles) (c_longest_wait : Cal P w K mg base "longest_wait" 7 2 F_longest_wait) (c_law_pick : Cal P w K mg base "_law_pick" 1 2 F_law_pick) (c_law_first : Cal P w K mg base "_law_first" 1 1 F_law_first) (c_first_gap : Cal P w K mg base "first_gap" 5 2 F_first_gap) (c_law_choices : Cal P w K mg base "_law_choices" 2 2 F_law_choices) (c_law_tick : Cal P w K mg base "_law_tick" 3 3 F_law_tick) : FnOk P w K mg base CX0 8 f fd ["script"] (spD ⟨P, w, K⟩ 1 F_law) :=
  fn_p (k := 7) F sc_law (fun _ _ h => h) fun cdv A outer s H E hr => by
    have hu := hr.units
    have nd := sc_law.nd
    exact (z_cons (z_for PassesOwn.never rfl (i_rng1 B.b_range (pas_cons (vw (d_add (vw (d_callB (CallR.or (call_min2 rfl) (cr_min rfl)) sem_min B.b_min (by decide +kernel) (pas_cons (vw (d_callB call_len sem_len B.b_len (by decide +kernel) (pas_cons (xv 0) pas_nil))) (pas_cons (vw ci) pas_nil)))) (vw ci))) pas_nil)) (g_n 1 nd)
    (z_cons (z_own 2 nd (c_callN c_law_spring hr (by decide) (pas_cons (xv 0) (pas_cons (xv 1) pas_nil))))
    (z_cons (z_set 3 nd (c_call1 c_law_plan hr (by decide) (pas_cons (xv 2) (pas_cons (vw ci) pas_nil))))
    (z_cons (z_asg (c_call0 c_gaps hr (by decide) (pas_cons (xv 3) pas_nil)) (g_t rfl (gs_c (g_n 4 nd) (gs_c (g_n 5 nd) gs_n))))
    (z_cons (z_set 6 nd (fr (f_lc (own := [("stop", 17)]) rfl nd (i_rng1 B.b_range (pas_cons (vw ci) pas_nil)) (blkOk_by (N := sc_N_law) (sc := defScope s_law) (own := [("stop", 17)]) (by decide +kernel)) (fun _ _ _ _ _ => (g_n 17 nd)) (fun _ _ _ _ _ => c_yes) (fun _ _ _ _ _ => (c_call0 c_longest_wait hr (by decide) (pas_cons (xv 3) (pas_cons (xv 17) pas_nil)))))))
    (z_cons (z_set 7 nd (d_add (vw (d_add (xv 4) (vw ci))) (vw (c_call1 c_law_pick hr (by decide) (pas_cons (xv 2) (pas_cons (vw ci) pas_nil))))))
    (z_cons (z_set 8 nd (c_call0 c_settles hr (by decide) (pas_cons (xv 3) (pas_cons (xv 7) pas_nil))))
    (z_cons (z_if (t_ne hu (vw (c_call0 c_settles hr (by decide) (pas_cons (xv 3) (pas_cons (xv 4) pas_nil)))) (vw ci))
    (z_one (z_ret cb))
    z_nil)
    (z_cons (z_own 9 nd f_newD)
    (z_cons (z_for PassesOwn.never rfl (i_rng1 B.b_range (pas_cons (vw ci) pas_nil)) (g_n 10 nd)
    (z_cons (z_set 11 nd (c_call0 c_law_first hr (by decide) (pas_cons (xv 3) pas_nil)))
    (z_one (z_for PassesOwn.never rfl (i_rng1 B.b_range (pas_cons (vw ci) pas_nil)) (g_n 12 nd)
    (z_cons (z_set 13 nd (c_call0 c_law_choices hr (by decide) (pas_cons (xv 3) (pas_cons (xv 11) pas_nil))))
    (z_cons (z_asg (c_call0 c_law_tick hr (by decide) (pas_cons (xv 3) (pas_cons (xv 11) (pas_cons (vw (d_item hu (xv 13) (vw (c_call1 c_law_pick hr (by decide) (pas_cons (xv 2) (pas_cons (vw (d_callB call_len sem_len B.b_len (by decide +kernel) (pas_cons (xv 13) pas_nil))) pas_nil)))))) pas_nil)))) (g_t rfl (gs_c (g_n 11 nd) (gs_c (g_n 14 nd) (gs_c (g_n 15 nd) gs_n)))))
    (z_cons (z_for PassesOwn.never rfl (i_seq (xd 14)) (g_t rfl (gs_c (g_n 16 nd) (gs_c (g_n 17 nd) (gs_c (g_n 18 nd) gs_n))))
    (z_one (z_if (t_notN (xv 18))
    (z_cons (z_storeK 9 hu (d_callB (CallR.or (call_min2 rfl) (cr_min rfl)) sem_min B.b_min (by decide +kernel) (pas_cons (xv 12) (pas_cons (vw (d_get2E hu (xv 9) (xd 18) (xd 12))) pas_nil))) (xd 18))
    (z_one (z_if (t_w (w_or (t_not (t_chain op_le op_le sem_cmp sem_cmp (xv 4) (xv 18) (xv 5))) (w_or1 (t_w (w_and (t_notN (xv 8)) (w_and (t_ge (xv 12) (xv 8)) (w_and1 (t_lt (xv 18) (xv 7)))))))))
    (z_one (z_ret cb))
    z_nil)))
    z_nil)))
    (z_one (z_if (t_ne hu (vw (fr (f_lc (own := [("number", 16), ("stop", 17), ("gap", 18)]) rfl nd (i_seq (xd 15)) (blkOk_by (N := sc_N_law) (sc := defScope s_law) (own := [("number", 16), ("stop", 17), ("gap", 18)]) (by decide +kernel)) (fun _ _ _ _ _ => (g_t rfl (gs_c (g_n 16 nd) (gs_c (g_n 17 nd) (gs_c (g_n 18 nd) gs_n))))) (fun _ _ _ _ _ => (c_if (t_w (w_and (t_notN (xv 18)) (w_and1 (t_gt (xv 18) (vw (d_item hu (xv 6) (xv 17))))))))) (fun _ _ _ _ _ => ci)))) (vw (fr (f_lst pas_nil))))
    (z_one (z_ret cb))
    z_nil)))))))))
    (z_one (z_for PassesOwn.never rfl (i_seq (d_add (vw (d_slice (vw (fr (f_callB (CallR.or (call_sortedDE rfl) (call_sortedDI rfl)) sem_sortKE B.b_sorted (by decide +kernel) (pas_cons (xv 9) pas_nil)))) o_n (o_s ci))) (vw (d_slice (vw (fr (f_callB (CallR.or (call_sortedDE rfl) (call_sortedDI rfl)) sem_sortKE B.b_sorted (by decide +kernel) (pas_cons (xv 9) pas_nil)))) (o_s (d_neg (vw ci))) o_n)))) (g_n 18 nd)
    (z_cons (z_set 19 nd (c_call0 c_first_gap hr (by decide) (pas_cons (xv 3) (pas_cons (xv 18) pas_nil))))
    (z_one (z_if (t_w (w_or (t_isN (xv 19)) (w_or1 (t_gt (vw (d_callB call_len sem_len B.b_len (by decide +kernel) (pas_cons (xv 19) pas_nil))) (vw (d_add (vw (d_itemK hu (xv 9) (xv 18))) (vw ci)))))))
    (z_one (z_ret cb))
    z_nil)))))))))))))))
    (z_one (z_ret cb)))
end
end Pf

set_option Elab.async false
set_option linter.all false
set_option maxRecDepth 100000
namespace Pf
open PySem L2 DL DL.Ev
/-! the springs -/
theorem spring_e {script : List Int} {at_ : Int} (h : 0 ≤ at_) : ∃ a b : Int, F_law_spring [scrD (script.map .int), .int at_] = some (.list [.int a, .int b], []) := by
  by_cases hl : at_ < script.length
  · obtain ⟨x, hx, hi⟩ := atI_mem (xs := script.map PyData.int) (i := at_) h (by simpa using hl)
    simp at hx
    obtain ⟨n, _, rfl⟩ := hx
    simp [F_law_spring, iniE, g_law_spring, e_law_spring, hl, hi]
  · simp [F_law_spring, iniE, g_law_spring, e_law_spring, hl]
theorem pick_e (a b : Int) {n : Int} (h : 0 < n) (hn : n < 1073741824) : ∃ a' b' d : Int, F_law_pick [.list [.int a, .int b], .int n] = some (.int d, [.list [.int a', .int b']]) ∧ 0 ≤ d ∧ d < n := by
  by_cases ha : 0 < a
  · simp [F_law_pick, iniE, ownsE, g_law_pick, ha, h, hn, ixN]
    exact ⟨_, _, _, ⟨rfl, rfl, rfl⟩, Int.emod_nonneg _ (by omega), Int.emod_lt_of_pos _ h⟩
  · simp [F_law_pick, iniE, ownsE, g_law_pick, ha, h, ixN]
    exact ⟨_, _, _, ⟨rfl, rfl, rfl⟩, Int.emod_nonneg _ (by omega), Int.emod_lt_of_pos _ h⟩
/-! kinds and twins -/
def kindI : Dt → Int
  | .none => 0
  | .bool _ => 1
  | .list _ => 2
  | .tuple _ => 3
  | .int _ => 4
  | .str _ => 5
  | .dict _ => 6
theorem zip_self {ds : List Dt} : zipD ds ds = ds.map fun d => .tuple [d, d] := by
  induction ds with
  | nil => rfl
  | cons d ds ih => simp [zipD, ih]
theorem eqv_refl {L : Nat} : ∀ {n : Nat} {d : Dt}, nice L n d = true → PyData.eqv d d = true := by
  intro n
  induction n with
  | zero => intro d h; cases d <;> simp at h ⊢
  | succ n ih =>
    have all : ∀ ds : List Dt, (∀ x ∈ ds, nice L n x = true) → PyData.eqvAll ds ds = true := by
      intro ds
      induction ds with
      | nil => simp
      | cons d ds hd => intro h; simp [ih (h d (by simp)), hd fun x hx => h x (by simp [hx])]
    intro d h
    cases d with
    | list ds => simp at h ⊢; exact all ds h.1
    | tuple ds => simp at h ⊢; exact all ds h.1
    | dict _ => simp at h
    | none => simp
    | bool _ => simp
    | int _ => simp
    | str _ => simp
end Pf

set_option Elab.async false
set_option linter.all false
set_option maxRecDepth 100000
namespace Pf
open PySem L2 DL DL.Ev
def wIn (v : Dt) (lo hi : Int) : Bool := match v with
  | .int i => decide (lo ≤ i) && decide (i ≤ hi)
  | _ => false
def rowB (n : Nat) (v : Dt) : Bool := match v with
  | .tuple ds => ds.length == n
  | _ => false
@[simp] theorem rowB_n {n : Nat} : rowB n .none = false := rfl
@[simp] theorem rowB_b {n : Nat} {b : Bool} : rowB n (.bool b) = false := rfl
@[simp] theorem rowB_i {n : Nat} {b : Int} : rowB n (.int b) = false := rfl
@[simp] theorem rowB_s {n : Nat} {b : Str} : rowB n (.str b) = false := rfl
@[simp] theorem rowB_l {n : Nat} {b : List Dt} : rowB n (.list b) = false := rfl
@[simp] theorem rowB_d {n : Nat} {b : List (Dt × Dt)} : rowB n (.dict b) = false := rfl
@[simp] theorem rowB_tu {n : Nat} {b : List Dt} : rowB n (.tuple b) = (b.length == n) := rfl
def noDic : Dt → Bool
  | .dict _ => false
  | _ => true
@[simp] theorem noDic_n : noDic .none = true := by simp [noDic]
@[simp] theorem noDic_b {b : Bool} : noDic (.bool b) = true := by simp [noDic]
@[simp] theorem noDic_i {b : Int} : noDic (.int b) = true := by simp [noDic]
@[simp] theorem noDic_s {b : Str} : noDic (.str b) = true := by simp [noDic]
@[simp] theorem noDic_l {b : List Dt} : noDic (.list b) = true := by simp [noDic]
@[simp] theorem noDic_t {b : List Dt} : noDic (.tuple b) = true := by simp [noDic]
@[simp] theorem noDic_d {b : List (Dt × Dt)} : noDic (.dict b) = false := by simp [noDic]
theorem nice_nd {L n : Nat} {d : Dt} (h : nice L n d = true) : noDic d = true := by cases d <;> simp [noDic] at h ⊢
theorem is_within_e {v : Dt} {lo hi : Int} (h : noDic v = true) : F_is_within [v, .int lo, .int hi] = some (.bool (wIn v lo hi), []) := by
  cases v <;> simp [F_is_within, iniE, ownsE, g_is_within, isInt, isBool, wIn, noDic] at h ⊢
theorem is_row_e {v : Dt} {n : Nat} (h : noDic v = true) : F_is_row [v, .int n] = some (.bool (rowB n v), []) := by
  cases v <;> simp [F_is_row, iniE, ownsE, g_is_row, isTup, noDic, rowB] at h ⊢
  rename_i ds
  rw [Bool.eq_iff_iff]
  simp
  omega
theorem is_row_lit {v : Dt} {n : Nat} (h : noDic v = true) : F_is_row [v, .int (no_index (OfNat.ofNat n))] = some (.bool (rowB n v), []) := is_row_e h
def holdB (v : Dt) : Bool := match v with
  | .tuple [.str w, k] => (w == "none" && wIn k 0 0) || (w == "gap" && wIn k 1 6) || (w == "half" && wIn k 1 6) || (w == "beat" && wIn k 2 4)
  | _ => false
theorem is_hold_e {L n : Nat} {v : Dt} (h : nice L n v = true) : F_is_hold [v] = some (.bool (holdB v), []) := by
  have h1 := nice_nd h
  cases v with
  | tuple ds =>
    cases n with
    | zero => simp at h
    | succ n =>
    simp at h
    match ds, h with
    | [x, k], h =>
      have hk := nice_nd (h.1 k (by simp))
      have hx := nice_nd (h.1 x (by simp))
      cases x with
      | str w =>
        simp [F_is_hold, iniE, ownsE, g_is_hold, is_row_lit h1, isAt, isStr, k_HOLDS, noOwn, wipeE, backE, lcF_n, lcF_c, is_within_e hk, isDr, holdB, boolsOf]
        simp [Bool.or_assoc]
      | dict _ => simp [noDic] at hx
      | none => simp [F_is_hold, iniE, ownsE, g_is_hold, is_row_lit h1, isAt, isStr, holdB]
      | bool _ => simp [F_is_hold, iniE, ownsE, g_is_hold, is_row_lit h1, isAt, isStr, holdB]
      | int _ => simp [F_is_hold, iniE, ownsE, g_is_hold, is_row_lit h1, isAt, isStr, holdB]
      | list _ => simp [F_is_hold, iniE, ownsE, g_is_hold, is_row_lit h1, isAt, isStr, holdB]
      | tuple _ => simp [F_is_hold, iniE, ownsE, g_is_hold, is_row_lit h1, isAt, isStr, holdB]
    | [], h => simp [F_is_hold, iniE, ownsE, g_is_hold, is_row_lit h1, isAt, holdB]
    | [x], h => simp [F_is_hold, iniE, ownsE, g_is_hold, is_row_lit h1, isAt, holdB]
    | x :: y :: z :: r, h => simp [F_is_hold, iniE, ownsE, g_is_hold, is_row_lit h1, isAt, holdB]
  | dict _ => simp at h
  | none => simp [F_is_hold, iniE, ownsE, g_is_hold, is_row_lit h1, isAt, holdB]
  | bool _ => simp [F_is_hold, iniE, ownsE, g_is_hold, is_row_lit h1, isAt, holdB]
  | int _ => simp [F_is_hold, iniE, ownsE, g_is_hold, is_row_lit h1, isAt, holdB]
  | str _ => simp [F_is_hold, iniE, ownsE, g_is_hold, is_row_lit h1, isAt, holdB]
  | list _ => simp [F_is_hold, iniE, ownsE, g_is_hold, is_row_lit h1, isAt, holdB]
end Pf

set_option Elab.async false
set_option linter.all false
set_option maxRecDepth 100000
namespace Pf
open PySem L2 DL DL.Ev
theorem wIn_int {a : Dt} {lo hi : Int} (h : wIn a lo hi = true) : ∃ i, a = .int i ∧ lo ≤ i ∧ i ≤ hi := by
  cases a <;> simp [wIn] at h
  exact ⟨_, rfl, h.1, h.2⟩
def thenI (a : Dt) (f : Int → Bool) : Bool := match a with
  | .int i => f i
  | _ => false
@[simp] theorem thenI_i {i : Int} {f : Int → Bool} : thenI (.int i) f = f i := rfl
def spanB (v : Dt) (lo hi : Int) : Bool := match v with
  | .tuple [a, b] => wIn a lo hi && thenI a fun i => wIn b i hi
  | _ => false
theorem is_span_e {L n : Nat} {v : Dt} {lo hi : Int} (h : nice L n v = true) : F_is_span [v, .int lo, .int hi] = some (.bool (spanB v lo hi), []) := by
  have h1 := nice_nd h
  cases v with
  | tuple ds =>
    cases n with
    | zero => simp at h
    | succ n =>
    simp at h
    match ds, h with
    | [a, b], h =>
      have ha := nice_nd (h.1 a (by simp))
      have hb := nice_nd (h.1 b (by simp))
      by_cases hA : wIn a lo hi = true
      · obtain ⟨i, rfl, _⟩ := wIn_int hA
        simp [F_is_span, iniE, ownsE, g_is_span, is_row_lit h1, isAt, isDr, is_within_e, ha, hb, hA, spanB]
      · simp at hA
        simp [F_is_span, iniE, ownsE, g_is_span, is_row_lit h1, isAt, isDr, is_within_e, ha, hb, hA, spanB]
    | [], h => simp [F_is_span, iniE, ownsE, g_is_span, is_row_lit h1, isAt, spanB]
    | [x], h => simp [F_is_span, iniE, ownsE, g_is_span, is_row_lit h1, isAt, spanB]
    | x :: y :: z :: r, h => simp [F_is_span, iniE, ownsE, g_is_span, is_row_lit h1, isAt, spanB]
  | dict _ => simp at h
  | _ => simp [F_is_span, iniE, ownsE, g_is_span, is_row_lit h1, isAt, spanB]
def stayB (v : Dt) : Bool := match v with
  | .tuple [a, b, c] => spanB (.tuple [a, b]) 1 3 && wIn c 1 6
  | _ => false
def planB (v : Dt) : Bool := match v with
  | .tuple [a, b, c, d, e, f] => wIn a 2 3 && spanB b 1 3 && stayB c && wIn d 0 2 && holdB e && thenI a fun i => wIn f 0 (i - 1)
  | _ => false
theorem len6 {ds : List Dt} (h : ds.length = 6) : ∃ a b c d e f, ds = [a, b, c, d, e, f] := by
  match ds, h with
  | [a, b, c, d, e, f], _ => exact ⟨a, b, c, d, e, f, rfl⟩
theorem len3 {ds : List Dt} (h : ds.length = 3) : ∃ a b c, ds = [a, b, c] := by
  match ds, h with
  | [a, b, c], _ => exact ⟨a, b, c, rfl⟩
theorem len2 {ds : List Dt} (h : ds.length = 2) : ∃ a b, ds = [a, b] := by
  match ds, h with
  | [a, b], _ => exact ⟨a, b, rfl⟩
theorem rowB_t {n : Nat} {v : Dt} (h : rowB n v = true) : ∃ ds, v = .tuple ds ∧ ds.length = n := by
  cases v <;> simp [rowB] at h
  exact ⟨_, rfl, h⟩
theorem planB_no {v : Dt} (h : rowB 6 v = false) : planB v = false := by
  cases v with
  | tuple ds =>
    match ds with
    | [a, b, c, d, e, f] => simp [rowB] at h
    | [] => rfl
    | [_] => rfl
    | [_, _] => rfl
    | [_, _, _] => rfl
    | [_, _, _, _] => rfl
    | [_, _, _, _, _] => rfl
    | _ :: _ :: _ :: _ :: _ :: _ :: _ :: _ => rfl
  | _ => rfl
theorem stayB_no {v : Dt} (h : rowB 3 v = false) : stayB v = false := by
  cases v with
  | tuple ds =>
    match ds with
    | [a, b, c] => simp [rowB] at h
    | [] => rfl
    | [_] => rfl
    | [_, _] => rfl
    | _ :: _ :: _ :: _ :: _ => rfl
  | _ => rfl
theorem spanB_no {v : Dt} {lo hi : Int} (h : rowB 2 v = false) : spanB v lo hi = false := by
  cases v with
  | tuple ds =>
    match ds with
    | [a, b] => simp [rowB] at h
    | [] => rfl
    | [_] => rfl
    | _ :: _ :: _ :: _ => rfl
  | _ => rfl
theorem is_plan_e {L n : Nat} {v : Dt} (h : nice L n v = true) (hL : 2 ≤ L) : F_is_plan [v] = some (.bool (planB v), []) := by
  have h1 := nice_nd h
  by_cases hr : rowB 6 v = true
  · obtain ⟨ds, rfl, hl⟩ := rowB_t hr
    obtain ⟨a, b, c, d, e, f, rfl⟩ := len6 hl
    cases n with
    | zero => simp at h
    | succ n =>
    simp at h
    obtain ⟨⟨ha, hb, hc, hd, he, hf⟩, _⟩ := h
    by_cases hA : wIn a 2 3 = true
    · obtain ⟨i, rfl, _⟩ := wIn_int hA
      by_cases hC : rowB 3 c = true
      · obtain ⟨cs, rfl, hlc⟩ := rowB_t hC
        obtain ⟨x, y, z, rfl⟩ := len3 hlc
        have hc' := hc
        cases n with
        | zero => simp at hc'
        | succ n =>
        simp at hc'
        obtain ⟨⟨hx, hy, hz⟩, _⟩ := hc'
        have hxy : nice L (n + 1) (.tuple [x, y]) = true := by simp [hx, hy]; omega
        simp [F_is_plan, iniE, ownsE, g_is_plan, is_row_lit h1, is_row_lit (nice_nd hc), isAt, isDr, is_within_e, hA, is_span_e hb, nice_nd ha, nice_nd hd, nice_nd hf, nice_nd hz, is_hold_e he, planB, stayB, cut_to, is_span_e hxy]
        cases spanB b 1 3 <;> cases spanB (.tuple [x, y]) 1 3 <;> cases wIn z 1 6 <;> simp [Bool.and_assoc]
      · simp at hC
        simp [F_is_plan, iniE, ownsE, g_is_plan, is_row_lit h1, is_row_lit (nice_nd hc), hC, isAt, isDr, is_within_e, hA, is_span_e hb, nice_nd ha, nice_nd hd, nice_nd hf, is_hold_e he, planB, stayB_no hC]
    · simp at hA
      simp [F_is_plan, iniE, ownsE, g_is_plan, is_row_lit h1, isAt, isDr, is_within_e, nice_nd ha, hA, planB]
  · simp at hr
    simp [F_is_plan, iniE, ownsE, g_is_plan, is_row_lit h1, hr, isAt, planB_no hr]
end Pf

set_option Elab.async false
set_option linter.all false
set_option maxRecDepth 100000
set_option maxHeartbeats 4000000
namespace Pf
open PySem L2 DL DL.Ev
structure PV where
  n : Nat
  r0 : Int
  r1 : Int
  s0 : Int
  s1 : Int
  g : Int
  t : Int
  w : Str
  k : Int
  b : Int
def PV.d (p : PV) : Dt := .tuple [.int p.n, .tuple [.int p.r0, .int p.r1], .tuple [.int p.s0, .int p.s1, .int p.g], .int p.t, .tuple [.str p.w, .int p.k], .int p.b]
structure PV.ok (p : PV) : Prop where
  n2 : 2 ≤ p.n
  n3 : p.n ≤ 3
  r0 : 1 ≤ p.r0
  r1 : p.r0 ≤ p.r1
  r3 : p.r1 ≤ 3
  s0 : 1 ≤ p.s0
  s1 : p.s0 ≤ p.s1
  s3 : p.s1 ≤ 3
  g1 : 1 ≤ p.g
  g6 : p.g ≤ 6
  t0 : 0 ≤ p.t
  t2 : p.t ≤ 2
  h : holdB (.tuple [.str p.w, .int p.k]) = true
  b0 : 0 ≤ p.b
  bn : p.b < p.n
theorem PV.ok.planB {p : PV} (h : p.ok) : planB p.d = true := by
  obtain ⟨h1, h2, h3, h4, h5, h6, h7, h8, h9, h10, h11, h12, h13, h14, h15⟩ := h
  simp [PV.d, Pf.planB, wIn, spanB, stayB, h13]
  omega
theorem PV.nice {p : PV} {L : Nat} (hL : 6 ≤ L) : nice L 2 p.d = true := by
  simp [PV.d]
  omega
theorem PV.ok.k0 {p : PV} (h : p.ok) : 0 ≤ p.k ∧ p.k ≤ 6 := by
  have := h.h
  simp [holdB, wIn] at this
  omega
theorem PV.ok.beat {p : PV} (h : p.ok) (hb : p.w = Str.ofString "beat") : 2 ≤ p.k ∧ p.k ≤ 4 := by
  have := h.h
  simp [holdB, wIn, hb] at this
  exact this
def partB (p : PV) (number : Int) (v : Dt) : Bool := match v with
  | .tuple [.str m, .int s, c] => wIn (.int s) 0 (p.n - 1) && (if m = Str.ofString "rides" then wIn c 0 (p.r1 - 1)
    else if m = Str.ofString "stays" then wIn c 1 (p.s1 + if number = 0 ∧ s = 0 then p.t else 0)
    else if m = Str.ofString "held" then (if p.w = Str.ofString "none" then false else if p.w = Str.ofString "half" then wIn c 1 (p.k / 2) else wIn c 0 0)
    else false)
  | _ => false
theorem partB_no {p : PV} {number : Int} {v : Dt} (h : rowB 3 v = false) : partB p number v = false := by
  cases v with
  | tuple ds =>
    match ds with
    | [a, b, c] => simp at h
    | [] => simp [partB]
    | [_] => simp [partB]
    | [_, _] => simp [partB]
    | _ :: _ :: _ :: _ :: _ => simp [partB]
  | _ => simp [partB]
end Pf

set_option Elab.async false
set_option linter.all false
set_option maxRecDepth 100000
set_option maxHeartbeats 4000000
namespace Pf
open PySem L2 DL DL.Ev
def tickB (t : Dt) : Bool := noneD t || wIn t 0 40
def ticksB (ts : List Dt) : Bool := ts.all tickB
def badT (ts : List Dt) : List Dt := ts.filter fun t => !tickB t
def standB (p : PV) (v : Dt) : Bool := match v with
  | .tuple [.tuple [a, b], .tuple ts, c] => (ts.length == p.n) && (partB p 0 a && partB p 1 b) && ticksB ts && wIn c 0 (if p.w = Str.ofString "beat" then p.k - 1 else 0)
  | _ => false
theorem boolsOf_map {α : Type} {f : α → Bool} : ∀ xs : List α, boolsOf (xs.map fun x => .bool (f x)) = some (xs.map f)
  | [] => rfl
  | x :: xs => by simp [boolsOf, boolsOf_map xs]
theorem all2 {a b : Bool} : allG [.list [.bool a, .bool b]] = some (.bool (a && b)) := by simp [allG, boolsOf]
theorem standB_no {p : PV} {v : Dt} (h : rowB 3 v = false) : standB p v = false := by
  cases v with
  | tuple ds =>
    match ds with
    | [a, b, c] => simp at h
    | [] => simp [standB]
    | [_] => simp [standB]
    | [_, _] => simp [standB]
    | _ :: _ :: _ :: _ :: _ => simp [standB]
  | _ => simp [standB]
theorem standB_no1 {p : PV} {a b c : Dt} (h : rowB 2 a = false) : standB p (.tuple [a, b, c]) = false := by
  cases a with
  | tuple ds =>
    match ds with
    | [a, b] => simp at h
    | [] => simp [standB]
    | [_] => simp [standB]
    | _ :: _ :: _ :: _ => simp [standB]
  | _ => simp [standB]
theorem standB_no2 {p : PV} {a b c d : Dt} (h : rowB p.n b = false) : standB p (.tuple [.tuple [a, d], b, c]) = false := by
  cases b with
  | tuple ds => simp at h; simp [standB, h]
  | _ => simp [standB]
theorem look_e {p : PV} (hp : p.ok) : F_look_at_plan [p.d] = some (.none, []) := by
  simp [F_look_at_plan, iniE, ownsE, g_look_at_plan, is_plan_e (PV.nice (L := 100) (by omega)) (by omega), hp.planB, isDr]
end Pf

set_option Elab.async false
set_option linter.all false
set_option maxRecDepth 100000
set_option maxHeartbeats 4000000
namespace Pf
open PySem L2 DL DL.Ev
abbrev spr (a b : Int) : Dt := .list [.int a, .int b]
theorem plan_e (a b : Int) {stops : Int} (h2 : 2 ≤ stops) (h3 : stops ≤ 3) : ∃ (a' b' : Int) (p : PV), F_law_plan [spr a b, .int stops] = some (p.d, [spr a' b']) ∧ p.ok ∧ (p.n : Int) ≤ stops := by
  obtain ⟨a1, b1, d1, e1, l1, u1⟩ := pick_e a b (n := stops - 1) (by omega) (by omega)
  obtain ⟨a2, b2, d2, e2, l2, u2⟩ := pick_e a1 b1 (n := 3) (by omega) (by omega)
  obtain ⟨x2, m2, i2⟩ := atI_mem (xs := [PyData.int 0, .int 0, .int 1]) l2 (by simpa using u2)
  obtain ⟨a3, b3, d3, e3, l3, u3⟩ := pick_e a2 b2 (n := 3) (by omega) (by omega)
  obtain ⟨x3, m3, i3⟩ := atI_mem (xs := [PyData.int 0, .int 1, .int 1]) l3 (by simpa using u3)
  obtain ⟨a4, b4, d4, e4, l4, u4⟩ := pick_e a3 b3 (n := 3) (by omega) (by omega)
  obtain ⟨x4, m4, i4⟩ := atI_mem (xs := [PyData.int 0, .int 0, .int 1]) l4 (by simpa using u4)
  obtain ⟨a5, b5, d5, e5, l5, u5⟩ := pick_e a4 b4 (n := 3) (by omega) (by omega)
  obtain ⟨a6, b6, d6, e6, l6, u6⟩ := pick_e a5 b5 (n := 4) (by omega) (by omega)
  obtain ⟨a7, b7, d7, e7, l7, u7⟩ := pick_e a6 b6 (n := 5) (by omega) (by omega)
  obtain ⟨x7, m7, i7⟩ := atI_mem (xs := [PyData.str (Str.ofString "none"), .str (Str.ofString "none"), .str (Str.ofString "gap"), .str (Str.ofString "half"), .str (Str.ofString "beat")]) l7 (by simpa using u7)
  obtain ⟨a8, b8, d8, e8, l8, u8⟩ := pick_e a7 b7 (n := 6) (by omega) (by omega)
  obtain ⟨a9, b9, d9, e9, l9, u9⟩ := pick_e a8 b8 (n := 6) (by omega) (by omega)
  obtain ⟨a10, b10, d10, e10, l10, u10⟩ := pick_e a9 b9 (n := 3) (by omega) (by omega)
  obtain ⟨a11, b11, d11, e11, l11, u11⟩ := pick_e a10 b10 (n := 4) (by omega) (by omega)
  obtain ⟨x11, m11, i11⟩ := atI_mem (xs := [PyData.int 0, .int 0, .int 1, .int 2]) l11 (by simpa using u11)
  obtain ⟨a12, b12, d12, e12, l12, u12⟩ := pick_e a11 b11 (n := 2 + d1) (by omega) (by omega)
  have y2 : ∃ i : Int, x2 = .int i ∧ 0 ≤ i ∧ i ≤ 1 := by simp at m2; rcases m2 with rfl | rfl <;> exact ⟨_, rfl, by omega, by omega⟩
  have y3 : ∃ i : Int, x3 = .int i ∧ 0 ≤ i ∧ i ≤ 1 := by simp at m3; rcases m3 with rfl | rfl <;> exact ⟨_, rfl, by omega, by omega⟩
  have y4 : ∃ i : Int, x4 = .int i ∧ 0 ≤ i ∧ i ≤ 1 := by simp at m4; rcases m4 with rfl | rfl <;> exact ⟨_, rfl, by omega, by omega⟩
  have y11 : ∃ i : Int, x11 = .int i ∧ 0 ≤ i ∧ i ≤ 2 := by simp at m11; rcases m11 with rfl | rfl | rfl <;> exact ⟨_, rfl, by omega, by omega⟩
  obtain ⟨v2, rfl, p2, q2⟩ := y2
  obtain ⟨v3, rfl, p3, q3⟩ := y3
  obtain ⟨v4, rfl, p4, q4⟩ := y4
  obtain ⟨v11, rfl, p11, q11⟩ := y11
  have y7 : ∃ (w : Str) (k : Int), x7 = .str w ∧ holdB (.tuple [.str w, .int k]) = true ∧ (getP [(.str (Str.ofString "none"), .int 0), (.str (Str.ofString "gap"), .int (1 + d8)), (.str (Str.ofString "half"), .int (1 + d9))] (.str w)).getD (.int (2 + d10)) = .int k := by
    simp at m7
    rcases m7 with rfl | rfl | rfl | rfl
    · exact ⟨_, 0, rfl, by simp [holdB, wIn], by simp [getP, List.find?, ofS_eq]⟩
    · exact ⟨_, 1 + d8, rfl, by simp [holdB, wIn, ofS_eq]; omega, by simp [getP, List.find?, ofS_eq]⟩
    · exact ⟨_, 1 + d9, rfl, by simp [holdB, wIn, ofS_eq]; omega, by simp [getP, List.find?, ofS_eq]⟩
    · exact ⟨_, 2 + d10, rfl, by simp [holdB, wIn, ofS_eq]; omega, by simp [getP, List.find?, ofS_eq]⟩
  obtain ⟨w, k, rfl, hw, hk⟩ := y7
  have hn : ((2 + d1).toNat : Int) = 2 + d1 := by omega
  have c1 : 1 + v2 ≤ (if (1 + v2) + v3 < 3 then (1 + v2) + v3 else 3) := by split <;> omega
  have c2 : (if (1 + v2) + v3 < 3 then (1 + v2) + v3 else 3) ≤ 3 := by split <;> omega
  have c3 : 1 + v4 ≤ (if (1 + v4) + d5 < 3 then (1 + v4) + d5 else 3) := by split <;> omega
  have c4 : (if (1 + v4) + d5 < 3 then (1 + v4) + d5 else 3) ≤ 3 := by split <;> omega
  let p : PV := ⟨(2 + d1).toNat, 1 + v2, (if (1 + v2) + v3 < 3 then (1 + v2) + v3 else 3), 1 + v4, (if (1 + v4) + d5 < 3 then (1 + v4) + d5 else 3), 1 + d6, v11, w, k, d12⟩
  refine ⟨a12, b12, p, ?_, ⟨by show 2 ≤ (2 + d1).toNat; omega, by show (2 + d1).toNat ≤ 3; omega, by show 1 ≤ 1 + v2; omega, c1, c2, by show 1 ≤ 1 + v4; omega, c3, c4, by show 1 ≤ 1 + d6; omega, by show 1 + d6 ≤ 6; omega, p11, q11, hw, l12, by show d12 < ((2 + d1).toNat : Int); omega⟩, by show ((2 + d1).toNat : Int) ≤ stops; omega⟩
  simp [F_law_plan, iniE, ownsE, g_law_plan, e1, e2, i2, e3, i3, e4, i4, e5, e6, e7, i7, e8, e9, e10, e11, i11, e12, keysOk, keyOf, mergeP, putP, getG, ofS_eq, hk, PV.d, hn, p]
end Pf

set_option Elab.async false
set_option linter.all false
set_option maxRecDepth 100000
set_option maxHeartbeats 4000000
namespace Pf
open PySem L2 DL DL.Ev
theorem nice_sub {L L' n n' : Nat} {ds es : List Dt} (hL : L ≤ L') (hn : n ≤ n') (h : ∀ x ∈ ds, nice L n x = true) (he : ∀ x ∈ es, x ∈ ds) (hl : es.length ≤ L') : nice L' (n' + 1) (.tuple es) = true := by
  simp [hl]
  exact fun x hx => nice_mono hL hn (h x (he x hx))
def otherL : List Dt := [.none, .bool true, .bool false, .int 0, .int 1, .int 2, .int 3, .int 4, .int 5, .int 6, .int 7, .int 40, .int 41, .int (-1), .int 1000000000000000000000000000000, .str "", .str "gap", .str "half", .str "beat", .str "none", .str "rides", .str "stays", .str "held", .tuple [], .list [], .tuple [.int 1, .int 1], .tuple [.int 1, .int 2], .tuple [.int 0, .int 0], .tuple [.str "gap", .int 2], .tuple [.str "beat", .int 4], .tuple [.str "half", .int 3], .tuple [.str "none", .int 0]]
end Pf

set_option Elab.async false
set_option linter.all false
set_option maxRecDepth 100000
set_option maxHeartbeats 4000000
namespace Pf
open PySem L2 DL DL.Ev
/-! the law's own tick -/
def oD : Option Int → Dt
  | none => .none
  | some i => .int i
@[simp] theorem oD_n : oD none = .none := by simp [oD]
@[simp] theorem oD_s {i : Int} : oD (some i) = .int i := by simp [oD]
@[simp] theorem noneD_oD {o : Option Int} : noneD (oD o) = o.isNone := by cases o <;> simp [noneD]
@[simp] theorem noneD_n : noneD .none = true := by simp [noneD]
@[simp] theorem noneD_i {i : Int} : noneD (.int i) = false := by simp [noneD]
structure PT where
  m : Str
  s : Int
  c : Int
def PT.d (x : PT) : Dt := .tuple [.str x.m, .int x.s, .int x.c]
def waitM (p : PV) (gap : Option Int) (clock : Int) : Option Int :=
  if p.w = Str.ofString "beat" then (if clock = 0 then none else some 0)
  else if p.w = Str.ofString "none" then none
  else match gap with
    | none => none
    | some g => if p.w = Str.ofString "gap" then (if p.k ≤ g then none else some 0) else (if p.k - g > 1 then some ((p.k - g) / 2) else none)
theorem wait_e {p : PV} {gap : Option Int} {clock : Int} : F_law_wait [p.d, oD gap, .int clock] = some (oD (waitM p gap clock), []) := by
  by_cases w1 : p.w = Str.ofString "beat"
  · by_cases hc : clock = 0 <;> simp [F_law_wait, iniE, ownsE, g_law_wait, PV.d, w1, waitM, hc]
  by_cases w2 : p.w = Str.ofString "none"
  · simp [F_law_wait, iniE, ownsE, g_law_wait, PV.d, w1, w2, waitM]
  cases gap with
  | none => simp [F_law_wait, iniE, ownsE, g_law_wait, PV.d, w1, w2, waitM]
  | some g =>
    by_cases w3 : p.w = Str.ofString "gap"
    · by_cases hc : p.k ≤ g <;> simp [F_law_wait, iniE, ownsE, g_law_wait, PV.d, w1, w2, w3, waitM, hc]
    · by_cases hc : 1 < p.k - g <;> simp [F_law_wait, iniE, ownsE, g_law_wait, PV.d, w1, w2, w3, waitM, hc]
def nextM (p : PV) (s : Int) : Int := if s + 1 = p.n then 0 else s + 1
def movedM (p : PV) (number : Int) (x : PT) (ends : Bool) (gap : Option Int) (clock : Int) : PT :=
  if x.m = Str.ofString "rides" then
    if ends = false then ⟨Str.ofString "rides", x.s, x.c + 1⟩
    else ⟨Str.ofString "stays", x.s, (match gap with
      | none => p.s0
      | some g => if p.s1 < p.s0 + g / p.g then p.s1 else p.s0 + g / p.g) + p.t * (if number = 0 ∧ x.s = 0 then 1 else 0)⟩
  else if 1 < x.c then ⟨x.m, x.s, x.c - 1⟩
  else match waitM p gap clock with
    | none => ⟨Str.ofString "rides", nextM p x.s, 0⟩
    | some u => if x.m = Str.ofString "held" ∧ p.w = Str.ofString "half" then ⟨Str.ofString "rides", nextM p x.s, 0⟩ else ⟨Str.ofString "held", x.s, u⟩
theorem moved_s {p : PV} {number : Int} {x : PT} {ends : Bool} {gap : Option Int} {clock : Int} (h0 : 0 ≤ x.s) (h1 : x.s < p.n) : 0 ≤ (movedM p number x ends gap clock).s ∧ (movedM p number x ends gap clock).s < p.n := by
  have hn : 0 ≤ nextM p x.s ∧ nextM p x.s < p.n := by unfold nextM; split <;> omega
  unfold movedM
  split
  · split <;> exact ⟨h0, h1⟩
  · split
    · exact ⟨h0, h1⟩
    · split
      · exact hn
      · split
        · exact hn
        · exact ⟨h0, h1⟩
theorem moved_e {p : PV} (hp : p.ok) {number : Int} {x : PT} {ends : Bool} {gap : Option Int} {clock : Int} :
    F_law_moved [p.d, .int number, x.d, .bool ends, oD gap, .int clock] = some ((movedM p number x ends gap clock).d, []) := by
  obtain ⟨m, s, c⟩ := x
  have g1 := hp.g1
  have g6 := hp.g6
  have hg : 0 < p.g ∧ p.g < 1073741824 := by omega
  by_cases m1 : m = Str.ofString "rides"
  · subst m1
    cases ends with
    | false => simp [F_law_moved, iniE, ownsE, g_law_moved, PV.d, PT.d, movedM]
    | true =>
      have t2 : ∀ q : Prop, [Decidable q] → (-18446744073709551616 < p.t ∧ p.t < 18446744073709551616 ∨ q) := fun q _ => .inl (by have := hp.t0; have := hp.t2; omega)
      have e2 : (number == 0 && (s == 0 && true)) = decide (number = 0 ∧ s = 0) := by rw [Bool.eq_iff_iff]; simp
      cases gap with
      | none => simp [F_law_moved, iniE, ownsE, g_law_moved, PV.d, PT.d, movedM, t2]
      | some g => simp [F_law_moved, iniE, ownsE, g_law_moved, PV.d, PT.d, movedM, t2, hg]
  · by_cases hc : 1 < c
    · simp [F_law_moved, iniE, ownsE, g_law_moved, PV.d, PT.d, movedM, m1, hc]
    · have hw := wait_e (p := p) (gap := gap) (clock := clock)
      unfold PV.d at hw
      cases hq : waitM p gap clock with
      | none =>
        rw [hq] at hw
        simp [F_law_moved, iniE, ownsE, g_law_moved, PV.d, PT.d, movedM, m1, hc, hw, hq, nextM, isDr]
      | some u =>
        rw [hq] at hw
        by_cases m2 : m = Str.ofString "held"
        · by_cases w2 : p.w = Str.ofString "half"
          · rw [w2] at hw
            simp [F_law_moved, iniE, ownsE, g_law_moved, PV.d, PT.d, movedM, m1, m2, w2, hc, hw, hq, nextM, isDr]
          · simp [F_law_moved, iniE, ownsE, g_law_moved, PV.d, PT.d, movedM, m1, m2, w2, hc, hw, hq, nextM, isDr]
        · simp [F_law_moved, iniE, ownsE, g_law_moved, PV.d, PT.d, movedM, m1, m2, hc, hw, hq, nextM, isDr]
structure SV where
  a : PT
  b : PT
  ts : List (Option Int)
  cl : Int
def SV.d (v : SV) : Dt := .tuple [.tuple [v.a.d, v.b.d], .tuple (v.ts.map oD), .int v.cl]
structure SV.ok (p : PV) (v : SV) : Prop where
  a0 : 0 ≤ v.a.s
  a1 : v.a.s < p.n
  b0 : 0 ≤ v.b.s
  b1 : v.b.s < p.n
  tl : v.ts.length = p.n
def gapM (now : List (Option Int)) (s : Int) : Option Int := (now[s.toNat]?.getD none).map (· + 1)
structure WT where
  now : List (Option Int)
  gone : List Dt
  came : List Dt
  later : List PT
def stepM (p : PV) (cl i : Int) (x : PT) (e : Bool) (T : WT) : WT :=
  let gap := gapM T.now x.s
  let y := movedM p i x e gap cl
  let out := x.m ≠ Str.ofString "rides" ∧ y.m = Str.ofString "rides"
  let evt : Dt := .tuple [.int i, .int x.s, oD gap]
  ⟨if out then T.now.set x.s.toNat (some (-1)) else T.now,
   if out then T.gone ++ [evt] else T.gone,
   if x.m = Str.ofString "rides" ∧ e = true then T.came ++ [evt] else T.came,
   T.later ++ [y]⟩
def beatM (p : PV) (cl : Int) : Int := if p.w = Str.ofString "beat" then (cl + 1) % p.k else 0
def tickW (p : PV) (v : SV) (e0 e1 : Bool) : WT := stepM p v.cl 1 v.b e1 (stepM p v.cl 0 v.a e0 ⟨v.ts, [], [], []⟩)
def tickM (p : PV) (v : SV) (e0 e1 : Bool) : SV :=
  let T := tickW p v e0 e1
  ⟨movedM p 0 v.a e0 (gapM v.ts v.a.s) v.cl, movedM p 1 v.b e1 (gapM (stepM p v.cl 0 v.a e0 ⟨v.ts, [], [], []⟩).now v.b.s) v.cl, T.now.map (Option.map (· + 1)), beatM p v.cl⟩
theorem atI_neg1 {α : Type} {xs : List α} {x : α} : atI (xs ++ [x]) (-1) = some x := by
  have h : (-1 + ((xs.length : Int) + 1)).toNat = xs.length := by omega
  unfold atI ixN
  rw [if_neg (by omega), if_pos (by simp; omega)]
  simp [h]
theorem ixN_nat {n : Nat} {s : Int} (h0 : 0 ≤ s) (h1 : s < n) : ixN n s = some s.toNat := by
  simp [ixN, h0, h1]
theorem now_get {now : List (Option Int)} {s : Int} (h0 : 0 ≤ s) (h1 : s < now.length) : ∃ o, atI (now.map oD) s = some (oD o) ∧ gapM now s = o.map (· + 1) := by
  have hl : s.toNat < now.length := by omega
  refine ⟨now[s.toNat], ?_, ?_⟩
  · unfold atI; rw [List.length_map, ixN_nat h0 h1]; simp [hl]
  · unfold gapM; simp [hl]
def tickBody : FS := (sqS (asS (binD ixG (xV 3) (xV 10)) (gT 3 (gsC (gN 11) (gsC (gN 12) (gsC (gN 13) gsN)))))
    (sqS (asS (ifD (vT (isN (vD (binD ixG (xV 6) (xV 12))))) (kD .none) (binD addG (vD (binD ixG (xV 6) (xV 12))) (vD (kD (.int 1))))) (gN 14))
    (sqS (exS (vD (appD 9 (cl0 F_law_moved (aC (xV 0) (aC (xV 10) (aC (vD (binD ixG (xV 3) (xV 10))) (aC (vD (binD ixG (xV 2) (xV 10))) (aC (xV 14) (aC (xV 5) aN))))))))))
    (sqS (ifS (andT (vT (binD neG (xV 11) (vD (kD (.str "rides"))))) (vT (binD eqG (vD (binD ixG (vD (binD ixG (xV 9) (vD (negD (vD (kD (.int 1))))))) (vD (kD (.int 0))))) (vD (kD (.str "rides")))))) (sqS (exS (vD (appD 7 (tupD (aC (xV 10) (aC (xV 12) (aC (xV 14) aN)))))))
    (stS 6 (negD (vD (kD (.int 1)))) (xD 12))) skS)
    (ifS (andT (vT (binD eqG (xV 11) (vD (kD (.str "rides"))))) (vT (binD ixG (xV 2) (xV 10)))) (exS (vD (appD 8 (tupD (aC (xV 10) (aC (xV 12) (aC (xV 14) aN))))))) skS)))))
theorem step_e {p : PV} (hp : p.ok) {S C Ps Sn : Dt} {cl i : Int} {x : PT} {e : Bool} {T : WT} {c11 c12 c13 c14 : Cell} {c15 c16 : Cell} (h0 : 0 ≤ x.s) (h1 : x.s < p.n) (hl : T.now.length = p.n)
    (hP : ixG Ps (.int i) = some x.d) (hC : ixG C (.int i) = some (.bool e)) (hg : T.gone.length ≤ 100) (hc : T.came.length ≤ 100) (ht : T.later.length ≤ 100) :
    tickBody
      [.dat p.d, .dat S, .dat C, .dat Ps, .dat Sn, .dat (.int cl), .own (.list (T.now.map oD)), .own (.list T.gone), .own (.list T.came), .own (.list (T.later.map PT.d)), .dat (.int i), c11, c12, c13, c14, c15, c16]
    = some (.nx [.dat p.d, .dat S, .dat C, .dat Ps, .dat Sn, .dat (.int cl), .own (.list ((stepM p cl i x e T).now.map oD)), .own (.list (stepM p cl i x e T).gone), .own (.list (stepM p cl i x e T).came), .own (.list ((stepM p cl i x e T).later.map PT.d)), .dat (.int i), .dat (.str x.m), .dat (.int x.s), .dat (.int x.c), .dat (oD (gapM T.now x.s)), c15, c16]) := by
  have size : sizeLine = 16777216 := rfl
  have z1 : T.gone.length < sizeLine := by omega
  have z2 : T.came.length < sizeLine := by omega
  have z3 : T.later.length < sizeLine := by omega
  obtain ⟨o, ho, hgap⟩ := now_get (now := T.now) h0 (by omega)
  have hi : ixN T.now.length x.s = some x.s.toNat := ixN_nat h0 (by omega)
  have hm := moved_e hp (number := i) (x := x) (ends := e) (gap := gapM T.now x.s) (clock := cl)
  generalize hy : movedM p i x e (gapM T.now x.s) cl = y at hm
  unfold stepM tickBody
  simp only [hy]
  obtain ⟨m, s, c⟩ := x
  obtain ⟨ym, ys, yc⟩ := y
  simp only at hgap ho hm hi
  simp only [PT.d] at hP hm
  by_cases m1 : m = Str.ofString "rides"
  · subst m1
    cases e with
    | true =>
      cases o with
      | none =>
        rw [hgap] at hm
        simp at hm
        simp [hP, ho, hgap, hC, hm, isDr, z1, z2, z3, PT.d]
      | some v =>
        rw [hgap] at hm
        simp at hm
        simp [hP, ho, hgap, hC, hm, isDr, z1, z2, z3, PT.d]
    | false =>
      cases o with
      | none =>
        rw [hgap] at hm
        simp at hm
        simp [hP, ho, hgap, hC, hm, isDr, z1, z2, z3, PT.d]
      | some v =>
        rw [hgap] at hm
        simp at hm
        simp [hP, ho, hgap, hC, hm, isDr, z1, z2, z3, PT.d]
  · by_cases y1 : ym = Str.ofString "rides"
    · subst y1
      cases o with
      | none =>
        rw [hgap] at hm
        simp at hm
        simp [hP, ho, hgap, hC, hm, isDr, z1, z2, z3, m1, atI_neg1, hi, List.map_set, PT.d]
      | some v =>
        rw [hgap] at hm
        simp at hm
        simp [hP, ho, hgap, hC, hm, isDr, z1, z2, z3, m1, atI_neg1, hi, List.map_set, PT.d]
    · cases o with
      | none =>
        rw [hgap] at hm
        simp at hm
        simp [hP, ho, hgap, hC, hm, isDr, z1, z2, z3, m1, y1, atI_neg1, PT.d]
      | some v =>
        rw [hgap] at hm
        simp at hm
        simp [hP, ho, hgap, hC, hm, isDr, z1, z2, z3, m1, y1, atI_neg1, PT.d]
end Pf

set_option Elab.async false
set_option linter.all false
set_option maxRecDepth 100000
set_option maxHeartbeats 4000000
namespace Pf
open PySem L2 DL DL.Ev
theorem stepM_len {p : PV} {cl i : Int} {x : PT} {e : Bool} {T : WT} : (stepM p cl i x e T).now.length = T.now.length ∧ (stepM p cl i x e T).gone.length ≤ T.gone.length + 1 ∧ (stepM p cl i x e T).came.length ≤ T.came.length + 1 ∧ (stepM p cl i x e T).later.length = T.later.length + 1 := by
  unfold stepM
  refine ⟨?_, ?_, ?_, by simp⟩
  · simp only; split <;> simp
  · simp only; split <;> simp
  · simp only; split <;> simp
theorem tick_ok {p : PV} {v : SV} {e0 e1 : Bool} (h : v.ok p) : (tickM p v e0 e1).ok p := by
  have m0 := moved_s (p := p) (number := 0) (x := v.a) (ends := e0) (gap := gapM v.ts v.a.s) (clock := v.cl) h.a0 h.a1
  have m1 := moved_s (p := p) (number := 1) (x := v.b) (ends := e1) (gap := gapM (stepM p v.cl 0 v.a e0 ⟨v.ts, [], [], []⟩).now v.b.s) (clock := v.cl) h.b0 h.b1
  refine ⟨m0.1, m0.2, m1.1, m1.2, ?_⟩
  show ((tickW p v e0 e1).now.map _).length = p.n
  rw [List.length_map]
  unfold tickW
  rw [stepM_len.1, stepM_len.1]
  exact h.tl
theorem tick_e {p : PV} {v : SV} {e0 e1 : Bool} (hp : p.ok) (h : v.ok p) :
    F_law_tick [p.d, v.d, .tuple [.bool e0, .bool e1]] = some (.tuple [(tickM p v e0 e1).d, .tuple (tickW p v e0 e1).gone, .tuple (tickW p v e0 e1).came], []) := by
  have l0 := stepM_len (p := p) (cl := v.cl) (i := 0) (x := v.a) (e := e0) (T := ⟨v.ts, [], [], []⟩)
  have l1 := stepM_len (p := p) (cl := v.cl) (i := 1) (x := v.b) (e := e1) (T := stepM p v.cl 0 v.a e0 ⟨v.ts, [], [], []⟩)
  simp only [List.length_nil] at l0
  have tl := h.tl
  have s0 := step_e hp (S := v.d) (C := .tuple [.bool e0, .bool e1]) (Ps := .tuple [v.a.d, v.b.d]) (Sn := .tuple (v.ts.map oD)) (cl := v.cl) (i := 0) (x := v.a) (e := e0) (T := ⟨v.ts, [], [], []⟩) (c11 := .un) (c12 := .un) (c13 := .un) (c14 := .un) (c15 := .un) (c16 := .un) h.a0 h.a1 h.tl (by simp) (by simp) (by simp) (by simp) (by simp)
  have s1 := step_e hp (S := v.d) (C := .tuple [.bool e0, .bool e1]) (Ps := .tuple [v.a.d, v.b.d]) (Sn := .tuple (v.ts.map oD)) (cl := v.cl) (i := 1) (x := v.b) (e := e1) (T := stepM p v.cl 0 v.a e0 ⟨v.ts, [], [], []⟩) (c11 := .dat (.str v.a.m)) (c12 := .dat (.int v.a.s)) (c13 := .dat (.int v.a.c)) (c14 := .dat (oD (gapM v.ts v.a.s))) (c15 := .un) (c16 := .un) h.b0 h.b1 (by omega) (by simp) (by simp) (by omega) (by omega) (by omega)
  have hT : stepM p v.cl 1 v.b e1 (stepM p v.cl 0 v.a e0 ⟨v.ts, [], [], []⟩) = tickW p v e0 e1 := rfl
  rw [hT] at s1 l1
  have hl : (tickW p v e0 e1).later = [movedM p 0 v.a e0 (gapM v.ts v.a.s) v.cl, movedM p 1 v.b e1 (gapM (stepM p v.cl 0 v.a e0 ⟨v.ts, [], [], []⟩).now v.b.s) v.cl] := rfl
  have ht : tickM p v e0 e1 = ⟨movedM p 0 v.a e0 (gapM v.ts v.a.s) v.cl, movedM p 1 v.b e1 (gapM (stepM p v.cl 0 v.a e0 ⟨v.ts, [], [], []⟩).now v.b.s) v.cl, (tickW p v e0 e1).now.map (Option.map (· + 1)), beatM p v.cl⟩ := rfl
  rw [ht]
  generalize movedM p 0 v.a e0 (gapM v.ts v.a.s) v.cl = y0 at *
  generalize movedM p 1 v.b e1 (gapM (stepM p v.cl 0 v.a e0 ⟨v.ts, [], [], []⟩).now v.b.s) v.cl = y1 at *
  clear hT ht
  generalize tickW p v e0 e1 = T at *
  generalize gapM (stepM p v.cl 0 v.a e0 ⟨v.ts, [], [], []⟩).now v.b.s = gp at *
  generalize stepM p v.cl 0 v.a e0 ⟨v.ts, [], [], []⟩ = T0 at *
  have lc : lcF (gN 16) yesT (ifD (vT (isN (xV 16))) (kD .none) (binD addG (xV 16) (vD (kD (.int 1))))) [16] (T.now.map oD) [.dat p.d, .dat v.d, .dat (.tuple [.bool e0, .bool e1]), .dat (.tuple [v.a.d, v.b.d]), .dat (.tuple (v.ts.map oD)), .dat (.int v.cl), .dat (.list (T.now.map oD)), .own (.list T.gone), .own (.list T.came), .own (.list [y0.d, y1.d]), .dat (.int 1), .dat (.str v.b.m), .dat (.int v.b.s), .dat (.int v.b.c), .dat (oD gp), .un, .un]
      = some ((T.now.map (Option.map (· + 1))).map oD, [.dat p.d, .dat v.d, .dat (.tuple [.bool e0, .bool e1]), .dat (.tuple [v.a.d, v.b.d]), .dat (.tuple (v.ts.map oD)), .dat (.int v.cl), .dat (.list (T.now.map oD)), .own (.list T.gone), .own (.list T.came), .own (.list [y0.d, y1.d]), .dat (.int 1), .dat (.str v.b.m), .dat (.int v.b.s), .dat (.int v.b.c), .dat (oD gp), .un, .un]) := by
    rw [lcF_pure (fun _ => true) (fun t => match t with | .int i => .int (i + 1) | t => t)]
    · rw [List.filter_eq_self.mpr (by simp), List.map_map, List.map_map]
      congr 2
      apply List.map_congr_left
      intro o _
      cases o <;> simp
    · intro t ht
      simp only [List.mem_map] at ht
      obtain ⟨o, _, rfl⟩ := ht
      refine ⟨_, rfl, rfl, ?_, by simp [noOwn], by simp [wipeE]⟩
      intro _
      cases o <;> simp
  simp only [List.map_nil] at s0
  simp only [hl, List.map_cons, List.map_nil] at s1
  have loop : forF (gN 10) tickBody [.int 0, .int 1] [.dat p.d, .dat v.d, .dat (.tuple [.bool e0, .bool e1]), .dat (.tuple [v.a.d, v.b.d]), .dat (.tuple (v.ts.map oD)), .dat (.int v.cl), .own (.list (v.ts.map oD)), .own (.list []), .own (.list []), .own (.list []), .un, .un, .un, .un, .un, .un, .un]
      = some (.nx [.dat p.d, .dat v.d, .dat (.tuple [.bool e0, .bool e1]), .dat (.tuple [v.a.d, v.b.d]), .dat (.tuple (v.ts.map oD)), .dat (.int v.cl), .own (.list (T.now.map oD)), .own (.list T.gone), .own (.list T.came), .own (.list [y0.d, y1.d]), .dat (.int 1), .dat (.str v.b.m), .dat (.int v.b.s), .dat (.int v.b.c), .dat (oD gp), .un, .un]) := by
    simp [forF_c, forF_n, s0, s1]
  have hbeat : p.w = Str.ofString "beat" → 0 < p.k := fun z => by have := hp.beat z; omega
  have sd : ∀ (gs : FGs) (e : En), gT 3 gs v.d e = gs [.tuple [v.a.d, v.b.d], .tuple (v.ts.map oD), .int v.cl] e := fun gs e => by simp [SV.d]
  have p4 : ixG p.d (.int 4) = some (.tuple [.str p.w, .int p.k]) := by simp [PV.d]
  generalize v.d = S at *
  unfold tickBody at loop
  by_cases hw : p.w = Str.ofString "beat"
  · have hk := hbeat hw
    simp [F_law_tick, iniE, ownsE, g_law_tick, sd, p4, loop, lc, hw, hk, noOwn, wipeE, backE, SV.d, beatM]
  · simp [F_law_tick, iniE, ownsE, g_law_tick, sd, p4, loop, lc, hw, noOwn, wipeE, backE, SV.d, beatM]
end Pf

set_option Elab.async false
set_option linter.all false
set_option maxRecDepth 100000
set_option maxHeartbeats 4000000
namespace Pf
open PySem L2 DL DL.Ev
def optsM (p : PV) (x : PT) : List Bool := if x.m = Str.ofString "rides" then (if x.c + 1 ≠ p.r1 then [false] else []) ++ (if p.r0 ≤ x.c + 1 then [true] else []) else [false]
theorem opts_e {p : PV} {x : PT} : F_law_options [p.d, x.d] = some (.list ((optsM p x).map .bool), []) := by
  have size : sizeLine = 16777216 := rfl
  obtain ⟨m, s, c⟩ := x
  by_cases m1 : m = Str.ofString "rides"
  · subst m1
    by_cases h1 : c + 1 = p.r1 <;> by_cases h2 : p.r0 ≤ c + 1
    · have h3 := h2; rw [h1] at h3; simp [F_law_options, iniE, ownsE, g_law_options, PV.d, PT.d, optsM, h1, h3, size]
    · have h3 := h2; rw [h1] at h3; simp [F_law_options, iniE, ownsE, g_law_options, PV.d, PT.d, optsM, h1, h3, size]
    · simp [F_law_options, iniE, ownsE, g_law_options, PV.d, PT.d, optsM, h1, h2, size]
    · simp [F_law_options, iniE, ownsE, g_law_options, PV.d, PT.d, optsM, h1, h2, size]
  · simp [F_law_options, iniE, ownsE, g_law_options, PV.d, PT.d, optsM, m1]
theorem opts_ne {p : PV} (hp : p.ok) {x : PT} : optsM p x ≠ [] := by
  have h1 := hp.r1
  unfold optsM
  split
  · split
    · simp
    · rename_i h
      simp at h
      rw [if_pos (by omega)]
      simp
  · simp
theorem opts_4 {p : PV} {x : PT} : optsM p x = [] ∨ optsM p x = [false] ∨ optsM p x = [true] ∨ optsM p x = [false, true] := by
  unfold optsM
  split
  · split <;> split <;> simp
  · simp
def choM (p : PV) (v : SV) : List (Bool × Bool) := (optsM p v.a).flatMap fun x => (optsM p v.b).map fun y => (x, y)
def prD (x : Bool × Bool) : Dt := .tuple [.bool x.1, .bool x.2]
theorem cho_e {p : PV} {v : SV} : F_law_choices [p.d, v.d] = some (.list ((choM p v).map prD), []) := by
  have size : sizeLine = 16777216 := rfl
  have o0 := opts_e (p := p) (x := v.a)
  have o1 := opts_e (p := p) (x := v.b)
  have lc : ∀ (x : Bool) (f : Dt), lcF (gN 4) yesT (tupD (aC (xV 3) (aC (xV 4) aN))) [4] ((optsM p v.b).map .bool) [.dat p.d, .dat v.d, .dat f, .dat (.bool x), .un] = some (((optsM p v.b).map fun y => (x, y)).map prD, [.dat p.d, .dat v.d, .dat f, .dat (.bool x), .un]) := by
    intro x f
    rw [lcF_pure (fun _ => true) (fun t => .tuple [.bool x, t])]
    · rw [List.filter_eq_self.mpr (by simp), List.map_map, List.map_map]
      rfl
    · intro t ht
      exact ⟨_, rfl, rfl, fun _ => by simp, by simp [noOwn], by simp [wipeE]⟩
  have i0 : ixG v.d (.int 0) = some (.tuple [v.a.d, v.b.d]) := by simp [SV.d]
  have l4 : (optsM p v.b).length ≤ 2 := by rcases opts_4 (p := p) (x := v.b) with h | h | h | h <;> simp [h]
  have s1 : (optsM p v.b).length ≤ sizeLine := by omega
  have s2 : (optsM p v.b).length + (optsM p v.b).length ≤ sizeLine := by omega
  unfold choM
  generalize v.d = S at *
  rcases opts_4 (p := p) (x := v.a) with h | h | h | h <;> rw [h] at o0 <;>
    simp [F_law_choices, iniE, ownsE, g_law_choices, forF_c, forF_n, o0, o1, i0, lc, noOwn, wipeE, backE, isDr, h, s1, s2, Function.comp_def]
theorem cho_ne {p : PV} (hp : p.ok) {v : SV} : 0 < (choM p v).length := by
  have h0 := opts_ne hp (x := v.a)
  have h1 := opts_ne hp (x := v.b)
  unfold choM
  rcases opts_4 (p := p) (x := v.a) with h | h | h | h <;> rcases opts_4 (p := p) (x := v.b) with h' | h' | h' | h' <;> simp [h, h'] at h0 h1 ⊢
theorem cho_le {p : PV} {v : SV} : (choM p v).length ≤ 4 := by
  unfold choM
  rcases opts_4 (p := p) (x := v.a) with h | h | h | h <;> rcases opts_4 (p := p) (x := v.b) with h' | h' | h' | h' <;> simp [h, h']
def firstM (p : PV) : SV := ⟨⟨Str.ofString "stays", 0, 1⟩, ⟨Str.ofString "stays", p.b, 1⟩, List.replicate p.n none, 0⟩
theorem rep_none {n : Nat} : (List.replicate n [PyData.none]).flatten = (List.replicate n none).map oD := by
  induction n with
  | zero => rfl
  | succ n ih => simp [List.replicate_succ, ih]
theorem first_e {p : PV} (hp : p.ok) : F_law_first [p.d] = some ((firstM p).d, []) := by
  have h2 := hp.n2
  have h3 := hp.n3
  have a1 : (2 : Int) ≤ p.n := by omega
  have a2 : (p.n : Int) ≤ 1000 := by omega
  have a3 : 2 ≤ p.n := by omega
  have a4 : p.n ≤ 1000 := by omega
  simp [F_law_first, iniE, ownsE, g_law_first, PV.d, firstM, SV.d, PT.d, rep_none, a1, a2, a3, a4]
theorem begin_e {p : PV} (hp : p.ok) : F_begin_of [p.d] = some ((firstM p).d, []) := by
  have h2 := hp.n2
  have h3 := hp.n3
  have a1 : (2 : Int) ≤ p.n := by omega
  have a2 : (p.n : Int) ≤ 1000 := by omega
  have a3 : 2 ≤ p.n := by omega
  have a4 : p.n ≤ 1000 := by omega
  simp [F_begin_of, iniE, ownsE, g_begin_of, PV.d, firstM, SV.d, PT.d, rep_none, a1, a2, a3, a4, k_STAYS]
theorem first_ok {p : PV} (hp : p.ok) : (firstM p).ok p := by
  have h2 := hp.n2
  exact ⟨by simp [firstM], by show (0 : Int) < _; omega, hp.b0, hp.bn, by simp [firstM]⟩
theorem SV.nice {v : SV} {L : Nat} {p : PV} (h : v.ok p) (hp : p.ok) (hL : 6 ≤ L) : Ev.nice L 3 v.d = true := by
  have h3 := hp.n3
  have tl := h.tl
  simp [SV.d, PT.d, tl]
  refine ⟨⟨⟨by omega, by omega⟩, ?_, by omega⟩, by omega⟩
  intro o _
  cases o <;> simp
end Pf

set_option Elab.async false
set_option linter.all false
set_option maxRecDepth 100000
set_option maxHeartbeats 4000000
namespace Pf
open PySem L2 DL DL.Ev
/-! the program's own tick -/
theorem pd0 {p : PV} : ixG p.d (.int 0) = some (.int p.n) := by simp [PV.d]
theorem pd1 {p : PV} : ixG p.d (.int 1) = some (.tuple [.int p.r0, .int p.r1]) := by simp [PV.d]
theorem pd2 {p : PV} : ixG p.d (.int 2) = some (.tuple [.int p.s0, .int p.s1, .int p.g]) := by simp [PV.d]
theorem pd3 {p : PV} : ixG p.d (.int 3) = some (.int p.t) := by simp [PV.d]
theorem pd4 {p : PV} : ixG p.d (.int 4) = some (.tuple [.str p.w, .int p.k]) := by simp [PV.d]
theorem pd5 {p : PV} : ixG p.d (.int 5) = some (.int p.b) := by simp [PV.d]
def heldM (p : PV) (gap : Option Int) (clock : Int) : Int :=
  if p.w = Str.ofString "none" then 0 else if p.w ≠ Str.ofString "beat" ∧ gap = none then 0
  else if p.w = Str.ofString "gap" then (if p.k ≤ gap.getD 0 then 0 else -1)
  else if p.w = Str.ofString "beat" then (if clock = 0 then 0 else -1)
  else if 0 < (p.k - gap.getD 0) / 2 then (p.k - gap.getD 0) / 2 else 0
theorem held_for_e {p : PV} {gap : Option Int} {clock : Int} : F_held_for [p.d, oD gap, .int clock] = some (.int (heldM p gap clock), []) := by
  by_cases w1 : p.w = Str.ofString "none"
  · simp [F_held_for, iniE, ownsE, g_held_for, pd4, w1, heldM]
  by_cases w2 : p.w = Str.ofString "beat"
  · by_cases hc : clock = 0 <;> simp [F_held_for, iniE, ownsE, g_held_for, pd4, w1, w2, heldM, hc]
  cases gap with
  | none => simp [F_held_for, iniE, ownsE, g_held_for, pd4, w1, w2, heldM]
  | some g =>
    by_cases w3 : p.w = Str.ofString "gap"
    · by_cases hc : p.k ≤ g <;> simp [F_held_for, iniE, ownsE, g_held_for, pd4, w1, w2, w3, heldM, hc]
    · simp [F_held_for, iniE, ownsE, g_held_for, pd4, w1, w2, w3, heldM]
theorem held_wait {p : PV} {gap : Option Int} {clock : Int} : (heldM p gap clock = 0 ↔ waitM p gap clock = none) ∧ ∀ u, waitM p gap clock = some u → (if heldM p gap clock > 0 then heldM p gap clock else 0) = u := by
  unfold heldM waitM
  by_cases w1 : p.w = Str.ofString "none"
  · simp [w1]
  by_cases w2 : p.w = Str.ofString "beat"
  · by_cases hc : clock = 0 <;> simp [w1, w2, hc]
  cases gap with
  | none => simp [w1, w2]
  | some g =>
    by_cases w3 : p.w = Str.ofString "gap"
    · by_cases hc : p.k ≤ g <;> simp [w1, w2, w3, hc]
    · simp [w1, w2, w3]
      by_cases h2 : 1 < p.k - g
      · have h3 : 0 < (p.k - g) / 2 := by omega
        simp [h2, h3]
        omega
      · have h3 : ¬ 0 < (p.k - g) / 2 := by omega
        simp [h2, h3]
        omega
theorem ways_e {p : PV} {x : PT} (h : x.m = Str.ofString "rides" → x.c + 1 ≤ p.r1) : F_ways_of [p.d, x.d] = some (.list ((optsM p x).map .bool), []) := by
  have size : sizeLine = 16777216 := rfl
  obtain ⟨m, s, c⟩ := x
  by_cases m1 : m = Str.ofString "rides"
  · have h' : c + 1 ≤ p.r1 := h m1
    subst m1
    by_cases h1 : c + 1 = p.r1 <;> by_cases h2 : p.r0 ≤ c + 1
    · have h3 := h2; rw [h1] at h3; simp [F_ways_of, iniE, ownsE, g_ways_of, PV.d, PT.d, optsM, k_RIDES, h1, h3, size]
    · have h3 := h2; rw [h1] at h3; simp [F_ways_of, iniE, ownsE, g_ways_of, PV.d, PT.d, optsM, k_RIDES, h1, h3, size]
    · have h4 : c + 1 < p.r1 := by omega
      simp [F_ways_of, iniE, ownsE, g_ways_of, PV.d, PT.d, optsM, k_RIDES, h1, h2, h4, size]
    · have h4 : c + 1 < p.r1 := by omega
      simp [F_ways_of, iniE, ownsE, g_ways_of, PV.d, PT.d, optsM, k_RIDES, h1, h2, h4, size]
  · simp [F_ways_of, iniE, ownsE, g_ways_of, PV.d, PT.d, optsM, k_RIDES, m1]
structure RideOk (p : PV) (v : SV) : Prop where
  a : v.a.m = Str.ofString "rides" → v.a.c + 1 ≤ p.r1
  b : v.b.m = Str.ofString "rides" → v.b.c + 1 ≤ p.r1
theorem lc2F_n {g : FG} {t : FT} {f1 : FI} {g1 : FG} {t1 : FT} {fe : FD} {vs vs1 : List Nat} {e : En} : lc2F g t f1 g1 t1 fe vs vs1 [] e = some ([], e) := id rfl
theorem lc2F_c {g : FG} {t : FT} {f1 : FI} {g1 : FG} {t1 : FT} {fe : FD} {vs vs1 : List Nat} {d : Dt} {ds : List Dt} {e : En} : lc2F g t f1 g1 t1 fe vs vs1 (d :: ds) e = (g d e).bnd fun e1 => (t e1).bnd fun p => if p.1 = true then
      (f1 p.2).bnd fun q => if noOwn q.2 vs = true then (lcF g1 t1 fe vs1 q.1 (wipeE q.2 vs1)).bnd fun r => if noOwn r.2 vs = true then (lc2F g t f1 g1 t1 fe vs vs1 ds (wipeE r.2 vs)).bnd fun s => some (r.1 ++ s.1, s.2) else none else none
    else if noOwn p.2 vs = true then lc2F g t f1 g1 t1 fe vs vs1 ds (wipeE p.2 vs) else none := id rfl
@[simp] theorem lc2D_e {f f1 : FI} {g g1 : FG} {t t1 : FT} {fe : FD} {vs vs1 : List Nat} {e : En} : lc2D f g t f1 g1 t1 fe vs vs1 e = (f e).bnd fun p => if noOwn p.2 vs = true then (lc2F g t f1 g1 t1 fe vs vs1 p.1 (wipeE p.2 vs)).bnd fun r => if r.1.length ≤ sizeLine then some (.list r.1, backE p.2 r.2 vs) else none else none := id rfl
theorem choices_of_e {p : PV} {v : SV} (h : RideOk p v) : F_choices_of [p.d, v.d] = some (.list ((choM p v).map prD), []) := by
  have size : sizeLine = 16777216 := rfl
  have o0 := ways_e h.a
  have o1 := ways_e h.b
  have i0 : ixG v.d (.int 0) = some (.tuple [v.a.d, v.b.d]) := by simp [SV.d]
  have lc : ∀ (x : Bool) (f a : Dt), lcF (gN 6) yesT (tupD (aC (xV 5) (aC (xV 6) aN))) [6] ((optsM p v.b).map .bool) [.dat p.d, .dat v.d, .dat f, .dat a, .un, .dat (.bool x), .un] = some (((optsM p v.b).map fun y => (x, y)).map prD, [.dat p.d, .dat v.d, .dat f, .dat a, .un, .dat (.bool x), .un]) := by
    intro x f a
    rw [lcF_pure (fun _ => true) (fun t => .tuple [.bool x, t])]
    · rw [List.filter_eq_self.mpr (by simp), List.map_map, List.map_map]
      rfl
    · intro t ht
      exact ⟨_, rfl, rfl, fun _ => by simp, by simp [noOwn], by simp [wipeE]⟩
  have l4 : (optsM p v.b).length ≤ 2 := by rcases opts_4 (p := p) (x := v.b) with h | h | h | h <;> simp [h]
  have s1 : (optsM p v.b).length ≤ sizeLine := by omega
  have s2 : (optsM p v.b).length + (optsM p v.b).length ≤ sizeLine := by omega
  rw [size] at s1 s2
  unfold choM
  generalize v.d = S at *
  rcases opts_4 (p := p) (x := v.a) with h | h | h | h <;> rw [h] at o0 <;>
    simp [F_choices_of, iniE, ownsE, g_choices_of, lcF_c, lcF_n, lc2F_c, lc2F_n, o0, o1, i0, lc, noOwn, wipeE, backE, isDr, h, s1, s2, size, Function.comp_def]
theorem part_behind_e {p : PV} (hp : p.ok) {number : Int} {x : PT} {ends : Bool} {gap : Option Int} {clock : Int} (h0 : 0 ≤ x.s) (h1 : x.s < p.n) :
    F_part_behind [p.d, .int number, x.d, .bool ends, oD gap, .int clock] = some ((movedM p number x ends gap clock).d, []) := by
  obtain ⟨m, s, c⟩ := x
  have g1 := hp.g1
  have g6 := hp.g6
  have n2 := hp.n2
  have hg : 0 < p.g ∧ p.g < 1073741824 := by omega
  have hn : (0 : Int) < p.n := by omega
  have hn0 : ¬ p.n = 0 := by omega
  simp only at h0 h1
  have nx : (s + 1) % p.n = nextM p s := by
    unfold nextM
    split
    · rename_i h
      rw [h, Int.emod_self]
    · rw [Int.emod_eq_of_lt (by omega) (by omega)]
  by_cases m1 : m = Str.ofString "rides"
  · subst m1
    cases ends with
    | false => simp [F_part_behind, iniE, ownsE, g_part_behind, PV.d, PT.d, movedM, k_RIDES]
    | true =>
      have e2 : ∀ y : Int, (if (number = 0 ∧ s = 0) then p.t else 0) = p.t * (if (number = 0 ∧ s = 0) then 1 else 0) := by intro y; split <;> simp
      have mn : ∀ i : Int, (if p.s0 + i / p.g < p.s1 then p.s0 + i / p.g else p.s1) = (if p.s1 < p.s0 + i / p.g then p.s1 else p.s0 + i / p.g) := by intro i; split <;> split <;> omega
      have st : F_stay_of [p.d, .int number, .int s, oD gap] = some (.int ((match gap with
        | none => p.s0
        | some g => if p.s1 < p.s0 + g / p.g then p.s1 else p.s0 + g / p.g) + p.t * (if number = 0 ∧ s = 0 then 1 else 0)), []) := by
        rw [← e2 0]
        by_cases z : number = 0 <;> by_cases z' : s = 0 <;> cases gap <;> simp [F_stay_of, iniE, ownsE, g_stay_of, PV.d, hg, z, z', mn]
      simp [F_part_behind, iniE, ownsE, g_part_behind, PT.d, movedM, k_RIDES, k_STAYS, st, isDr]
      try (cases gap <;> rfl)
  · by_cases hc : 1 < c
    · simp [F_part_behind, iniE, ownsE, g_part_behind, PT.d, movedM, k_RIDES, m1, hc]
    · have hf := held_for_e (p := p) (gap := gap) (clock := clock)
      obtain ⟨w1, w2⟩ := held_wait (p := p) (gap := gap) (clock := clock)
      by_cases hh : m = Str.ofString "held" ∧ p.w = Str.ofString "half"
      · obtain ⟨m2, w3⟩ := hh
        cases hq : waitM p gap clock <;> simp [F_part_behind, iniE, ownsE, g_part_behind, pd0, pd4, PT.d, movedM, k_RIDES, k_HELD, m1, m2, w3, hc, hn0, nx, hq]
      · have hz : ∀ q : Prop, [Decidable q] → (if m = Str.ofString "held" then (if p.w = Str.ofString "half" then q else True) else True) = True := by
          intro q _
          by_cases m2 : m = Str.ofString "held"
          · have w3 : ¬ p.w = Str.ofString "half" := fun z => hh ⟨m2, z⟩
            simp [m2, w3]
          · simp [m2]
        cases hq : waitM p gap clock with
        | none =>
          have w0 := w1.mpr hq
          rw [w0] at hf
          by_cases m2 : m = Str.ofString "held"
          · have w3 : ¬ p.w = Str.ofString "half" := fun z => hh ⟨m2, z⟩
            simp [F_part_behind, iniE, ownsE, g_part_behind, pd0, pd4, PT.d, movedM, k_RIDES, k_HELD, m1, m2, w3, hc, hn0, nx, hq, hf, isDr]
          · simp [F_part_behind, iniE, ownsE, g_part_behind, pd0, pd4, PT.d, movedM, k_RIDES, k_HELD, m1, m2, hc, hn0, nx, hq, hf, isDr]
        | some u =>
          have w0 : ¬ heldM p gap clock = 0 := fun z => by rw [w1.mp z] at hq; cases hq
          have w4 := w2 u hq
          by_cases m2 : m = Str.ofString "held"
          · have w3 : ¬ p.w = Str.ofString "half" := fun z => hh ⟨m2, z⟩
            simp [F_part_behind, iniE, ownsE, g_part_behind, pd0, pd4, PT.d, movedM, k_RIDES, k_HELD, m1, m2, w3, hc, hn0, nx, hq, hf, w0, isDr]
            exact w4
          · simp [F_part_behind, iniE, ownsE, g_part_behind, pd0, pd4, PT.d, movedM, k_RIDES, k_HELD, m1, m2, hc, hn0, nx, hq, hf, w0, isDr]
            exact w4
end Pf

set_option Elab.async false
set_option linter.all false
set_option maxRecDepth 100000
set_option maxHeartbeats 4000000
namespace Pf
open PySem L2 DL DL.Ev
def nowL (L : List Int) : Nat → List (Option Int) → List (Option Int)
  | _, [] => []
  | k, o :: r => (if (k : Int) ∈ L then some (-1) else o) :: nowL L (k + 1) r
theorem nowL_len {L : List Int} : ∀ {ts : List (Option Int)} {k : Nat}, (nowL L k ts).length = ts.length
  | [], _ => rfl
  | o :: r, k => by simp [nowL, nowL_len (ts := r)]
theorem nowL_nil : ∀ {ts : List (Option Int)} {k : Nat}, nowL [] k ts = ts
  | [], _ => rfl
  | o :: r, k => by simp [nowL, nowL_nil (ts := r)]
theorem nowL_get {L : List Int} : ∀ {ts : List (Option Int)} {k j : Nat}, (nowL L k ts)[j]? = ts[j]?.map fun o => if ((k + j : Nat) : Int) ∈ L then some (-1) else o
  | [], _, _ => by simp [nowL]
  | o :: r, k, 0 => by simp [nowL]
  | o :: r, k, j + 1 => by
    simp only [nowL, List.getElem?_cons_succ]
    rw [nowL_get (ts := r)]
    have : k + 1 + j = k + (j + 1) := by omega
    rw [this]
theorem nowL_set {L : List Int} : ∀ {ts : List (Option Int)} {k j : Nat}, (nowL L k ts).set j (some (-1)) = nowL (L ++ [((k + j : Nat) : Int)]) k ts
  | [], _, _ => rfl
  | o :: r, k, 0 => by
    simp only [nowL, List.set_cons_zero, List.cons.injEq]
    refine ⟨by simp, ?_⟩
    have h : ∀ {r : List (Option Int)} {m : Nat}, k < m → nowL L m r = nowL (L ++ [((k + 0 : Nat) : Int)]) m r := by
      intro r
      induction r with
      | nil => intro m _; rfl
      | cons o r ih =>
        intro m hm
        simp only [nowL]
        rw [ih (by omega)]
        congr 1
        have : ¬ (m : Int) = ((k + 0 : Nat) : Int) := by omega
        simp only [List.mem_append, List.mem_singleton, this, or_false]
    exact h (by omega)
  | o :: r, k, j + 1 => by
    simp only [nowL, List.set_cons_succ, List.cons.injEq]
    have e : k + 1 + j = k + (j + 1) := by omega
    refine ⟨?_, ?_⟩
    · have : ¬ (k : Int) = ((k + (j + 1) : Nat) : Int) := by omega
      simp only [List.mem_append, List.mem_singleton, this, or_false]
    · rw [nowL_set (ts := r), e]
def passBody : FS := (sqS (asS (xD 11) (gT 3 (gsC (gN 12) (gsC (gN 13) (gsC (gN 14) gsN)))))
    (sqS (asS (cl0 F_gap_of (aC (xV 4) (aC (xV 6) (aC (xV 13) aN)))) (gN 15))
    (sqS (asS (cl0 F_part_behind (aC (xV 0) (aC (xV 10) (aC (xV 11) (aC (vD (binD ixG (xV 2) (xV 10))) (aC (xV 15) (aC (xV 5) aN))))))) (gN 16))
    (sqS (ifS (andT (vT (binD eqG (xV 12) (vD (kD k_RIDES)))) (vT (binD eqG (vD (binD ixG (xV 16) (vD (kD (.int 0))))) (vD (kD k_STAYS))))) (asS (binD addG (xV 9) (vD (tupD (aC (vD (tupD (aC (xV 10) (aC (xV 13) (aC (xV 15) aN))))) aN)))) (gN 9)) skS)
    (sqS (ifS (andT (vT (binD neG (xV 12) (vD (kD k_RIDES)))) (vT (binD eqG (vD (binD ixG (xV 16) (vD (kD (.int 0))))) (vD (kD k_RIDES))))) (sqS (asS (binD addG (xV 8) (vD (tupD (aC (vD (tupD (aC (xV 10) (aC (xV 13) (aC (xV 15) aN))))) aN)))) (gN 8))
    (exS (vD (appD 6 (xD 13))))) skS)
    (exS (vD (appD 7 (xD 16)))))))))
theorem in_ints {L : List Int} {s : Int} : inG (.int s) (.list (L.map .int)) = some (.bool (decide (s ∈ L))) := by
  have h1 : (L.map PyData.int).all (okN 59) = true := by simp
  have h2 : ((L.map PyData.int).any fun z => PyData.eqv z (.int s)) = decide (s ∈ L) := by
    rw [Bool.eq_iff_iff]
    simp
  rw [in_l, if_pos ⟨by simp, by rw [ok_list]; exact h1⟩, h2]
theorem gap_e {ts : List (Option Int)} {L : List Int} {s : Int} (h0 : 0 ≤ s) (h1 : s < ts.length) : F_gap_of [.tuple (ts.map oD), .list (L.map .int), .int s] = some (oD (gapM (nowL L 0 ts) s), []) := by
  obtain ⟨o, ho, hg⟩ := now_get (now := ts) h0 h1
  have hi := in_ints (L := L) (s := s)
  have hs : ((0 + s.toNat : Nat) : Int) = s := by omega
  have hgl : gapM (nowL L 0 ts) s = if s ∈ L then some 0 else gapM ts s := by
    unfold gapM
    rw [nowL_get, hs]
    have : s.toNat < ts.length := by omega
    by_cases hm : s ∈ L <;> simp [hm, this]
  rw [hgl, hg]
  by_cases hm : s ∈ L
  · simp [-in_l, F_gap_of, iniE, ownsE, g_gap_of, hi, hm]
  · cases o <;> simp [-in_l, F_gap_of, iniE, ownsE, g_gap_of, hi, hm, ho]
theorem pass_e {p : PV} (hp : p.ok) {S C Ps : Dt} {ts : List (Option Int)} {cl i : Int} {x : PT} {e : Bool} {T : WT} {L : List Int} {c12 c13 c14 c15 c16 c17 c18 : Cell} (h0 : 0 ≤ x.s) (h1 : x.s < p.n) (hl : ts.length = p.n) (hT : T.now = nowL L 0 ts)
    (hC : ixG C (.int i) = some (.bool e)) (hg : T.gone.length ≤ 100) (hc : T.came.length ≤ 100) (ht : T.later.length ≤ 100) (hL : L.length ≤ 100) : ∃ L' : List Int, L'.length ≤ L.length + 1 ∧ (stepM p cl i x e T).now = nowL L' 0 ts ∧
    passBody [.dat p.d, .dat S, .dat C, .dat Ps, .dat (.tuple (ts.map oD)), .dat (.int cl), .own (.list (L.map .int)), .own (.list (T.later.map PT.d)), .dat (.tuple T.gone), .dat (.tuple T.came), .dat (.int i), .dat x.d, c12, c13, c14, c15, c16, c17, c18]
    = some (.nx [.dat p.d, .dat S, .dat C, .dat Ps, .dat (.tuple (ts.map oD)), .dat (.int cl), .own (.list (L'.map .int)), .own (.list ((stepM p cl i x e T).later.map PT.d)), .dat (.tuple (stepM p cl i x e T).gone), .dat (.tuple (stepM p cl i x e T).came), .dat (.int i), .dat x.d, .dat (.str x.m), .dat (.int x.s), .dat (.int x.c), .dat (oD (gapM T.now x.s)), .dat (movedM p i x e (gapM T.now x.s) cl).d, c17, c18]) := by
  have size : sizeLine = 16777216 := rfl
  have z1 : T.gone.length + 1 ≤ 16777216 := by omega
  have z2 : T.came.length + 1 ≤ 16777216 := by omega
  have z3 : T.later.length < 16777216 := by omega
  have z4 : L.length < 16777216 := by omega
  have gp := gap_e (L := L) h0 (show x.s < ts.length by omega)
  rw [← hT] at gp
  have hm := part_behind_e hp (number := i) (x := x) (ends := e) (gap := gapM T.now x.s) (clock := cl) h0 h1
  have hs : ((0 + x.s.toNat : Nat) : Int) = x.s := by omega
  have hset := nowL_set (L := L) (ts := ts) (k := 0) (j := x.s.toNat)
  rw [hs, ← hT] at hset
  have hrs : x.m = Str.ofString "rides" → (e = true ↔ (movedM p i x e (gapM T.now x.s) cl).m = Str.ofString "stays") := fun m1 => by
    unfold movedM
    cases e <;> simp [m1]
  unfold stepM
  simp only
  generalize movedM p i x e (gapM T.now x.s) cl = y at *
  generalize gapM T.now x.s = gq at *
  have ia : isAt (oD gq) = true := by cases gq <;> rfl
  obtain ⟨m, s, c⟩ := x
  obtain ⟨ym, ys, yc⟩ := y
  simp only at hrs hset hs
  simp only [PT.d] at hm gp
  by_cases m1 : m = Str.ofString "rides"
  · subst m1
    have hrs := hrs rfl
    refine ⟨L, by omega, by simp [hT], ?_⟩
    by_cases he : e = true
    · have hy := hrs.mp he
      subst hy
      subst he
      simp [-in_l, passBody, PT.d, gp, hm, hC, isDr, ia, k_RIDES, k_STAYS, z1, z2, z3, z4, size]
    · have hy : ¬ ym = Str.ofString "stays" := fun z => he (hrs.mpr z)
      simp only [Bool.not_eq_true] at he
      subst he
      simp [-in_l, passBody, PT.d, gp, hm, hC, isDr, ia, k_RIDES, k_STAYS, z1, z2, z3, z4, size, hy]
  · by_cases y1 : ym = Str.ofString "rides"
    · subst y1
      refine ⟨L ++ [s], by simp, by simp [m1, hset], ?_⟩
      simp [-in_l, passBody, PT.d, gp, hm, hC, isDr, ia, k_RIDES, k_STAYS, z1, z2, z3, z4, size, m1]
    · refine ⟨L, by omega, by simp [hT, y1], ?_⟩
      simp [-in_l, passBody, PT.d, gp, hm, hC, isDr, ia, k_RIDES, k_STAYS, z1, z2, z3, z4, size, m1, y1]
theorem ticks_e {L : List Int} : ∀ {ts : List (Option Int)} {k : Nat}, (enuD (ts.map oD) k).map (fun t => match t with
    | .tuple [.int i, d] => if i ∈ L then .int 0 else (match d with | .int v => .int (v + 1) | d => d)
    | t => t) = ((nowL L k ts).map (Option.map (· + 1))).map oD
  | [], _ => rfl
  | o :: r, k => by
    simp only [List.map_cons, enuD, nowL]
    rw [ticks_e (ts := r)]
    congr 1
    by_cases h : (k : Int) ∈ L
    · simp [h]
    · cases o <;> simp [h]
theorem passed_e {p : PV} {v : SV} {e0 e1 : Bool} (hp : p.ok) (h : v.ok p) :
    F_passed [p.d, v.d, prD (e0, e1)] = some (.tuple [(tickM p v e0 e1).d, .tuple (tickW p v e0 e1).gone, .tuple (tickW p v e0 e1).came], []) := by
  have l0 := stepM_len (p := p) (cl := v.cl) (i := 0) (x := v.a) (e := e0) (T := ⟨v.ts, [], [], []⟩)
  have l1 := stepM_len (p := p) (cl := v.cl) (i := 1) (x := v.b) (e := e1) (T := stepM p v.cl 0 v.a e0 ⟨v.ts, [], [], []⟩)
  simp only [List.length_nil] at l0
  have tl := h.tl
  obtain ⟨L0, hL0, hn0, s0⟩ := pass_e hp (S := v.d) (C := .tuple [.bool e0, .bool e1]) (Ps := .tuple [v.a.d, v.b.d]) (ts := v.ts) (cl := v.cl) (i := 0) (x := v.a) (e := e0) (T := ⟨v.ts, [], [], []⟩) (L := []) (c12 := .un) (c13 := .un) (c14 := .un) (c15 := .un) (c16 := .un) (c17 := .un) (c18 := .un) h.a0 h.a1 tl nowL_nil.symm (by simp) (by simp) (by simp) (by simp) (by simp)
  obtain ⟨L1, hL1, hn1, s1⟩ := pass_e hp (S := v.d) (C := .tuple [.bool e0, .bool e1]) (Ps := .tuple [v.a.d, v.b.d]) (ts := v.ts) (cl := v.cl) (i := 1) (x := v.b) (e := e1) (T := stepM p v.cl 0 v.a e0 ⟨v.ts, [], [], []⟩) (L := L0) (c12 := .dat (.str v.a.m)) (c13 := .dat (.int v.a.s)) (c14 := .dat (.int v.a.c)) (c15 := .dat (oD (gapM v.ts v.a.s))) (c16 := .dat (movedM p 0 v.a e0 (gapM v.ts v.a.s) v.cl).d) (c17 := .un) (c18 := .un) h.b0 h.b1 tl hn0 (by simp) (by omega) (by omega) (by omega) (by simp at hL0; omega)
  have hT : stepM p v.cl 1 v.b e1 (stepM p v.cl 0 v.a e0 ⟨v.ts, [], [], []⟩) = tickW p v e0 e1 := rfl
  rw [hT] at s1 l1 hn1
  have hl : (tickW p v e0 e1).later = [movedM p 0 v.a e0 (gapM v.ts v.a.s) v.cl, movedM p 1 v.b e1 (gapM (stepM p v.cl 0 v.a e0 ⟨v.ts, [], [], []⟩).now v.b.s) v.cl] := rfl
  have ht : tickM p v e0 e1 = ⟨movedM p 0 v.a e0 (gapM v.ts v.a.s) v.cl, movedM p 1 v.b e1 (gapM (stepM p v.cl 0 v.a e0 ⟨v.ts, [], [], []⟩).now v.b.s) v.cl, (tickW p v e0 e1).now.map (Option.map (· + 1)), beatM p v.cl⟩ := rfl
  rw [ht, hn1]
  generalize movedM p 0 v.a e0 (gapM v.ts v.a.s) v.cl = y0 at *
  generalize movedM p 1 v.b e1 (gapM (stepM p v.cl 0 v.a e0 ⟨v.ts, [], [], []⟩).now v.b.s) v.cl = y1 at *
  clear hT ht
  generalize tickW p v e0 e1 = T at *
  generalize gapM (stepM p v.cl 0 v.a e0 ⟨v.ts, [], [], []⟩).now v.b.s = gp at *
  generalize stepM p v.cl 0 v.a e0 ⟨v.ts, [], [], []⟩ = T0 at *
  have tk := ticks_e (L := L1) (ts := v.ts) (k := 0)
  have lc : lcF (gT 2 (gsC (gN 13) (gsC (gN 18) gsN))) yesT (ifD (vT (binD inG (xV 13) (xV 6))) (kD (.int 0)) (ifD (vT (isN (xV 18))) (kD .none) (binD addG (xV 18) (vD (kD (.int 1)))))) [13, 18] (enuD (v.ts.map oD) 0)
      [.dat p.d, .dat v.d, .dat (.tuple [.bool e0, .bool e1]), .dat (.tuple [v.a.d, v.b.d]), .dat (.tuple (v.ts.map oD)), .dat (.int v.cl), .own (.list (L1.map .int)), .own (.list [y0.d, y1.d]), .dat (.tuple T.gone), .dat (.tuple T.came), .dat (.int 1), .dat v.b.d, .dat (.str v.b.m), .un, .dat (.int v.b.c), .dat (oD gp), .dat y1.d, .un, .un]
      = some (((nowL L1 0 v.ts).map (Option.map (· + 1))).map oD, [.dat p.d, .dat v.d, .dat (.tuple [.bool e0, .bool e1]), .dat (.tuple [v.a.d, v.b.d]), .dat (.tuple (v.ts.map oD)), .dat (.int v.cl), .own (.list (L1.map .int)), .own (.list [y0.d, y1.d]), .dat (.tuple T.gone), .dat (.tuple T.came), .dat (.int 1), .dat v.b.d, .dat (.str v.b.m), .un, .dat (.int v.b.c), .dat (oD gp), .dat y1.d, .un, .un]) := by
    rw [lcF_pure (fun _ => true) (fun t => match t with
      | .tuple [.int i, d] => if i ∈ L1 then .int 0 else (match d with | .int v => .int (v + 1) | d => d)
      | t => t)]
    · rw [List.filter_eq_self.mpr (by simp), tk]
    · intro t ht
      obtain ⟨j, hj, rfl⟩ := List.getElem_of_mem ht
      obtain ⟨a, ha, hd⟩ := enuD_get (ds := v.ts.map oD) (i := 0) (j := j) (d := (enuD (v.ts.map oD) 0)[j]) (by simp [hj])
      rw [hd]
      rw [List.getElem?_map, Option.map_eq_some_iff] at ha
      obtain ⟨o, _, rfl⟩ := ha
      generalize ((0 + j : Nat) : Int) = jj
      refine ⟨_, by simp; rfl, rfl, ?_, by simp [noOwn], by simp [wipeE]⟩
      intro _
      have hi := in_ints (L := L1) (s := jj)
      by_cases hm : jj ∈ L1
      · simp [-in_l, hi, hm]
      · cases o <;> simp [-in_l, hi, hm]
  simp only [List.map_nil] at s0
  simp only [hl, List.map_cons, List.map_nil] at s1
  have loop : forF (gT 2 (gsC (gN 10) (gsC (gN 11) gsN))) passBody [.tuple [.int 0, v.a.d], .tuple [.int 1, v.b.d]] [.dat p.d, .dat v.d, .dat (.tuple [.bool e0, .bool e1]), .dat (.tuple [v.a.d, v.b.d]), .dat (.tuple (v.ts.map oD)), .dat (.int v.cl), .own (.list []), .own (.list []), .dat (.tuple []), .dat (.tuple []), .un, .un, .un, .un, .un, .un, .un, .un, .un]
      = some (.nx [.dat p.d, .dat v.d, .dat (.tuple [.bool e0, .bool e1]), .dat (.tuple [v.a.d, v.b.d]), .dat (.tuple (v.ts.map oD)), .dat (.int v.cl), .own (.list (L1.map .int)), .own (.list [y0.d, y1.d]), .dat (.tuple T.gone), .dat (.tuple T.came), .dat (.int 1), .dat v.b.d, .dat (.str v.b.m), .dat (.int v.b.s), .dat (.int v.b.c), .dat (oD gp), .dat y1.d, .un, .un]) := by
    simp [forF_c, forF_n, s0, s1]
  have hbeat : p.w = Str.ofString "beat" → 0 < p.k := fun z => by have := hp.beat z; omega
  have sd : ∀ (gs : FGs) (e : En), gT 3 gs v.d e = gs [.tuple [v.a.d, v.b.d], .tuple (v.ts.map oD), .int v.cl] e := fun gs e => by simp [SV.d]
  unfold passBody at loop
  unfold prD
  simp only
  generalize v.d = S at *
  by_cases hw : p.w = Str.ofString "beat"
  · have hk := hbeat hw
    simp [F_passed, iniE, ownsE, g_passed, sd, pd4, enuD, loop, lc, hw, hk, noOwn, wipeE, backE, SV.d, beatM]
  · simp [F_passed, iniE, ownsE, g_passed, sd, pd4, enuD, loop, lc, hw, noOwn, wipeE, backE, SV.d, beatM]
end Pf

set_option Elab.async false
set_option linter.all false
set_option maxRecDepth 100000
set_option maxHeartbeats 4000000
namespace Pf
open PySem L2 DL DL.Ev
theorem eqv_pr {a b : Bool × Bool} : PyData.eqv (prD a) (prD b) = (a == b) := by
  obtain ⟨a1, a2⟩ := a
  obtain ⟨b1, b2⟩ := b
  rw [Bool.eq_iff_iff]
  simp [prD]
theorem ok_prs {n : Nat} {cs : List (Bool × Bool)} : (cs.map prD).all (okN (n + 1)) = true := by
  rw [List.all_map, List.all_eq_true]
  intro x _
  simp [prD]
theorem evts {p : PV} {v : SV} {e0 e1 : Bool} {L : Nat} (hL : 3 ≤ L) : nice L 2 (.tuple (tickW p v e0 e1).gone) = true ∧ nice L 2 (.tuple (tickW p v e0 e1).came) = true := by
  have one : ∀ (i : Int) (x : PT) (e : Bool) (T : WT) (n : Nat), n ≤ L - 1 → (∀ d ∈ T.gone, nice L 1 d = true) → (∀ d ∈ T.came, nice L 1 d = true) → T.gone.length ≤ n → T.came.length ≤ n →
      (∀ d ∈ (stepM p v.cl i x e T).gone, nice L 1 d = true) ∧ (∀ d ∈ (stepM p v.cl i x e T).came, nice L 1 d = true) ∧ (stepM p v.cl i x e T).gone.length ≤ n + 1 ∧ (stepM p v.cl i x e T).came.length ≤ n + 1 := by
    intro i x e T n hn h1 h2 h3 h4
    have hev : ∀ g : Option Int, nice L 1 (.tuple [.int i, .int x.s, oD g]) = true := by intro g; cases g <;> simp <;> omega
    have sl := stepM_len (p := p) (cl := v.cl) (i := i) (x := x) (e := e) (T := T)
    refine ⟨?_, ?_, by omega, by omega⟩
    · unfold stepM
      simp only
      split
      · intro d hd
        rw [List.mem_append, List.mem_singleton] at hd
        rcases hd with hd | rfl
        · exact h1 d hd
        · exact hev _
      · exact h1
    · unfold stepM
      simp only
      split
      · intro d hd
        rw [List.mem_append, List.mem_singleton] at hd
        rcases hd with hd | rfl
        · exact h2 d hd
        · exact hev _
      · exact h2
  obtain ⟨a1, a2, a3, a4⟩ := one 0 v.a e0 ⟨v.ts, [], [], []⟩ 0 (by omega) (by simp) (by simp) (by simp) (by simp)
  obtain ⟨b1, b2, b3, b4⟩ := one 1 v.b e1 (stepM p v.cl 0 v.a e0 ⟨v.ts, [], [], []⟩) 1 (by omega) a1 a2 a3 a4
  have hT : stepM p v.cl 1 v.b e1 (stepM p v.cl 0 v.a e0 ⟨v.ts, [], [], []⟩) = tickW p v e0 e1 := rfl
  rw [hT] at b1 b2 b3 b4
  simp only [nice_tuple, Bool.and_eq_true, List.all_eq_true, decide_eq_true_eq]
  exact ⟨⟨b1, by omega⟩, ⟨b2, by omega⟩⟩
theorem prs_nice {L : Nat} {cs : List (Bool × Bool)} (hL : 2 ≤ L) (hc : cs.length ≤ L) : nice L 2 (.list (cs.map prD)) = true := by
  simp only [nice_list, Bool.and_eq_true, List.all_eq_true, decide_eq_true_eq, List.length_map]
  refine ⟨?_, hc⟩
  intro x hx
  rw [List.mem_map] at hx
  obtain ⟨c, _, rfl⟩ := hx
  simp [prD, hL]
theorem forF_cnt {g : FG} {b : FS} (K : Nat) (P : Nat → En → Prop) : ∀ {ds : List Dt} {k : Nat} {e : En}, k + ds.length ≤ K → (∀ d ∈ ds, ∀ k e, k < K → P k e → ∃ e1 e2, g d e = some e1 ∧ b e1 = some (.nx e2) ∧ P (k + 1) e2) → P k e → ∃ e', forF g b ds e = some (.nx e') ∧ P (k + ds.length) e'
  | [], k, e, _, _, h => ⟨e, rfl, h⟩
  | d :: ds, k, e, hK, q, h => by
    simp only [List.length_cons] at hK
    obtain ⟨e1, e2, h1, h2, h3⟩ := q d (by simp) k e (by omega) h
    obtain ⟨e', h4, h5⟩ := forF_cnt K P (ds := ds) (e := e2) (by omega) (fun d hd => q d (by simp [hd])) h3
    refine ⟨e', by simp [forF_c, h1, h2, h4], ?_⟩
    have : k + (d :: ds).length = k + 1 + ds.length := by simp; omega
    rw [this]; exact h5
end Pf

set_option Elab.async false
set_option linter.all false
set_option maxRecDepth 100000
set_option maxHeartbeats 4000000
namespace Pf
open PySem L2 DL DL.Ev
/-! no stop is without a leaving for long -/
theorem PV.ok.hold {p : PV} (h : p.ok) : (p.w = Str.ofString "none" ∧ p.k = 0) ∨ (p.w = Str.ofString "gap" ∧ 1 ≤ p.k ∧ p.k ≤ 6) ∨ (p.w = Str.ofString "half" ∧ 1 ≤ p.k ∧ p.k ≤ 6) ∨ (p.w = Str.ofString "beat" ∧ 2 ≤ p.k ∧ p.k ≤ 4) := by
  have := h.h
  simp [holdB, wIn] at this
  rcases this with ((⟨h1, h2, h3⟩ | ⟨h1, h2, h3⟩) | ⟨h1, h2, h3⟩) | ⟨h1, h2, h3⟩
  · exact .inl ⟨h1, by omega⟩
  · exact .inr (.inl ⟨h1, h2, h3⟩)
  · exact .inr (.inr (.inl ⟨h1, h2, h3⟩))
  · exact .inr (.inr (.inr ⟨h1, h2, h3⟩))
def longM (p : PV) (i s : Int) : Int := p.s1 + (if i = 0 ∧ s = 0 then p.t else 0)
def PartP (p : PV) (i : Int) (x : PT) : Prop := 0 ≤ x.s ∧ x.s < p.n ∧
  ((x.m = Str.ofString "rides" ∧ 0 ≤ x.c ∧ x.c ≤ p.r1 - 1) ∨ (x.m = Str.ofString "stays" ∧ 1 ≤ x.c ∧ x.c ≤ longM p i x.s) ∨
   (x.m = Str.ofString "held" ∧ ((p.w = Str.ofString "half" ∧ 1 ≤ x.c ∧ x.c ≤ p.k / 2) ∨ ((p.w = Str.ofString "gap" ∨ p.w = Str.ofString "beat") ∧ x.c = 0))))
theorem PartP.b {p : PV} {i : Int} {x : PT} (h : PartP p i x) : partB p i x.d = true := by
  obtain ⟨m, s, c⟩ := x
  obtain ⟨h0, h1, h2⟩ := h
  simp only at h0 h1 h2
  have h1' : s ≤ p.n - 1 := by omega
  rcases h2 with ⟨rfl, h3, h4⟩ | ⟨rfl, h3, h4⟩ | ⟨rfl, ⟨hw, h3, h4⟩ | ⟨hw | hw, h3⟩⟩
  · simp [partB, PT.d, wIn, h0, h1', h3, h4]
  · simp [partB, PT.d, wIn, h0, h1', h3]
    exact h4
  · simp [partB, PT.d, wIn, h0, h1', hw, h3, h4]
  · simp [partB, PT.d, wIn, h0, h1', hw, h3]
  · simp [partB, PT.d, wIn, h0, h1', hw, h3]
theorem next_in {p : PV} {s : Int} (h0 : 0 ≤ s) (h1 : s < p.n) : 0 ≤ nextM p s ∧ nextM p s < p.n := by unfold nextM; split <;> omega
/-- a part behind a tick is one -/
theorem moved_part {p : PV} (hp : p.ok) {i : Int} {x : PT} (h : PartP p i x) {e : Bool} (he : e ∈ optsM p x) {gap : Option Int} (hg : ∀ g, gap = some g → 0 ≤ g) (cl : Int) : PartP p i (movedM p i x e gap cl) := by
  obtain ⟨m, s, c⟩ := x
  obtain ⟨h0, h1, h2⟩ := h
  simp only at h0 h1 h2
  have nx := next_in h0 h1
  have r0 := hp.r0
  have r1 := hp.r1
  have s0 := hp.s0
  have s1 := hp.s1
  have g1 := hp.g1
  have t0 := hp.t0
  have rid : PartP p i ⟨Str.ofString "rides", nextM p s, 0⟩ := ⟨nx.1, nx.2, .inl ⟨rfl, by show (0 : Int) ≤ 0; omega, by show (0 : Int) ≤ p.r1 - 1; omega⟩⟩
  rcases h2 with ⟨rfl, h3, h4⟩ | h2
  · cases e with
    | false =>
      simp [optsM] at he
      have he' : ¬ c + 1 = p.r1 := he
      simp [movedM, PartP, h0, h1]
      omega
    | true =>
      simp [movedM, PartP, h0, h1]
      unfold longM
      have tt : p.t * (if i = 0 ∧ s = 0 then 1 else 0) = if i = 0 ∧ s = 0 then p.t else 0 := by split <;> simp
      have tn : 0 ≤ (if i = 0 ∧ s = 0 then p.t else 0) := by split <;> omega
      rw [tt]
      cases gap with
      | none => simp only; omega
      | some g =>
        have := hg g rfl
        have hd : 0 ≤ g / p.g := Int.ediv_nonneg this (by omega)
        simp only
        split <;> omega
  · have hm : ¬ m = Str.ofString "rides" := by rcases h2 with ⟨h, _⟩ | ⟨h, _⟩ <;> rw [h] <;> simp
    by_cases hc : 1 < c
    · have : movedM p i ⟨m, s, c⟩ e gap cl = ⟨m, s, c - 1⟩ := by simp [movedM, hm, hc]
      rw [this]
      refine ⟨h0, h1, .inr ?_⟩
      rcases h2 with ⟨h3, h4, h5⟩ | ⟨h3, ⟨hw, h4, h5⟩ | ⟨hw, h4⟩⟩
      · exact .inl ⟨h3, by show 1 ≤ c - 1; omega, by show c - 1 ≤ longM p i s; omega⟩
      · exact .inr ⟨h3, .inl ⟨hw, by show 1 ≤ c - 1; omega, by show c - 1 ≤ p.k / 2; omega⟩⟩
      · omega
    · cases hq : waitM p gap cl with
      | none =>
        have : movedM p i ⟨m, s, c⟩ e gap cl = ⟨Str.ofString "rides", nextM p s, 0⟩ := by simp [movedM, hm, hc, hq]
        rw [this]
        exact rid
      | some u =>
        by_cases hh : m = Str.ofString "held" ∧ p.w = Str.ofString "half"
        · have : movedM p i ⟨m, s, c⟩ e gap cl = ⟨Str.ofString "rides", nextM p s, 0⟩ := by simp [movedM, hm, hc, hq, hh]
          rw [this]
          exact rid
        · have : movedM p i ⟨m, s, c⟩ e gap cl = ⟨Str.ofString "held", s, u⟩ := by
            simp only [movedM, hm, hc, hq, if_false]
            rw [if_neg hh]
          rw [this]
          refine ⟨h0, h1, .inr (.inr ⟨rfl, ?_⟩)⟩
          unfold waitM at hq
          rcases hp.hold with ⟨hw, hk⟩ | ⟨hw, hk⟩ | ⟨hw, hk⟩ | ⟨hw, hk⟩
          · simp [hw] at hq
          · cases gap with
            | none => simp [hw] at hq
            | some g =>
              simp [hw] at hq
              exact .inr ⟨.inl hw, hq.2.symm⟩
          · cases gap with
            | none => simp [hw] at hq
            | some g =>
              have := hg g rfl
              simp [hw] at hq
              exact .inl ⟨hw, by show 1 ≤ u; omega, by show u ≤ p.k / 2; omega⟩
          · simp [hw] at hq
            exact .inr ⟨.inr hw, hq.2.symm⟩
def atS (v : SV) (s : Int) : Option Int := v.ts[s.toNat]?.getD none
def outM (x y : PT) : Prop := x.m ≠ Str.ofString "rides" ∧ y.m = Str.ofString "rides"
instance {x y : PT} : Decidable (outM x y) := by unfold outM; infer_instance
/-- what the ticks are behind a tick -/
theorem new_ts {p : PV} {v : SV} (hv : v.ok p) {e0 e1 : Bool} {s : Int} (h0 : 0 ≤ s) (h1 : s < p.n) :
    atS (tickM p v e0 e1) s = if (outM v.a (tickM p v e0 e1).a ∧ s = v.a.s) ∨ (outM v.b (tickM p v e0 e1).b ∧ s = v.b.s) then some 0 else (atS v s).map (· + 1) := by
  have a0 := hv.a0
  have b0 := hv.b0
  have hl : s.toNat < v.ts.length := by have := hv.tl; omega
  have key : ∀ (now : List (Option Int)) (x : PT) (i : Int) (e : Bool) (g c l), 0 ≤ x.s → s.toNat < now.length → ((stepM p v.cl i x e ⟨now, g, c, l⟩).now)[s.toNat]? = if outM x (movedM p i x e (gapM now x.s) v.cl) ∧ s = x.s then some (some (-1)) else now[s.toNat]? := by
    intro now x i e g c l hx hn
    unfold stepM outM
    simp only
    by_cases ho : x.m ≠ Str.ofString "rides" ∧ (movedM p i x e (gapM now x.s) v.cl).m = Str.ofString "rides"
    · rw [if_pos ho]
      by_cases hs : s = x.s
      · subst hs
        rw [if_pos ⟨ho, rfl⟩, List.getElem?_set]
        simp [hn]
      · have : x.s.toNat ≠ s.toNat := by omega
        rw [if_neg (fun z => hs z.2), List.getElem?_set_ne this]
    · rw [if_neg ho, if_neg (fun z => ho z.1)]
  have k0 := key v.ts v.a 0 e0 [] [] [] a0 hl
  have l0 := stepM_len (p := p) (cl := v.cl) (i := 0) (x := v.a) (e := e0) (T := ⟨v.ts, [], [], []⟩)
  have k1 := key (stepM p v.cl 0 v.a e0 ⟨v.ts, [], [], []⟩).now v.b 1 e1 (stepM p v.cl 0 v.a e0 ⟨v.ts, [], [], []⟩).gone (stepM p v.cl 0 v.a e0 ⟨v.ts, [], [], []⟩).came (stepM p v.cl 0 v.a e0 ⟨v.ts, [], [], []⟩).later b0 (by rw [l0.1]; exact hl)
  have ha : (tickM p v e0 e1).a = movedM p 0 v.a e0 (gapM v.ts v.a.s) v.cl := rfl
  have hb : (tickM p v e0 e1).b = movedM p 1 v.b e1 (gapM (stepM p v.cl 0 v.a e0 ⟨v.ts, [], [], []⟩).now v.b.s) v.cl := rfl
  have ht : atS (tickM p v e0 e1) s = (((stepM p v.cl 1 v.b e1 (stepM p v.cl 0 v.a e0 ⟨v.ts, [], [], []⟩)).now)[s.toNat]?.map (Option.map (· + 1))).getD none := by
    show ((tickW p v e0 e1).now.map (Option.map (· + 1)))[s.toNat]?.getD none = _
    rw [List.getElem?_map]
    rfl
  rw [ht, ha, hb]
  have k1' : ((stepM p v.cl 1 v.b e1 (stepM p v.cl 0 v.a e0 ⟨v.ts, [], [], []⟩)).now)[s.toNat]? = _ := k1
  rw [k1', k0]
  unfold atS
  by_cases c1 : outM v.b (movedM p 1 v.b e1 (gapM (stepM p v.cl 0 v.a e0 ⟨v.ts, [], [], []⟩).now v.b.s) v.cl) ∧ s = v.b.s
  · rw [if_pos c1, if_pos (.inr c1)]
    rfl
  · rw [if_neg c1]
    by_cases c0 : outM v.a (movedM p 0 v.a e0 (gapM v.ts v.a.s) v.cl) ∧ s = v.a.s
    · rw [if_pos c0, if_pos (.inl c0)]
      rfl
    · rw [if_neg c0, if_neg (fun z => z.elim c0 c1)]
      simp [hl]
end Pf

set_option Elab.async false
set_option linter.all false
set_option maxRecDepth 100000
set_option maxHeartbeats 4000000
namespace Pf
open PySem L2 DL DL.Ev
def Wq (p : PV) (q : Int) : Int := p.r1 + longM p 0 q + 6
def d0M (p : PV) (v : SV) : Int := if v.a.m = Str.ofString "rides" then p.r1 - v.a.c + longM p 0 v.a.s + 6 else if v.a.m = Str.ofString "stays" then v.a.c + 6
  else if p.w = Str.ofString "half" then v.a.c
  else if p.w = Str.ofString "gap" then (match atS v v.a.s with
    | none => 1
    | some x => if p.k - x > 1 then p.k - x else 1)
  else if v.cl = 0 then 1 else p.k - v.cl + 1
def restM (p : PV) (q s : Int) : Int := if s = q then 0 else if s = nextM p q then Wq p (nextM p q) else Wq p (nextM p q) + Wq p (nextM p (nextM p q))
def totM (p : PV) : Int := if p.n = 2 then Wq p 0 + Wq p 1 else Wq p 0 + Wq p 1 + Wq p 2
theorem Wq_pos {p : PV} (hp : p.ok) (q : Int) : 7 ≤ Wq p q := by
  have r0 := hp.r0
  have r1 := hp.r1
  have s0 := hp.s0
  have s1 := hp.s1
  have t0 := hp.t0
  unfold Wq longM
  split <;> omega
theorem tot_le {p : PV} (hp : p.ok) : totM p ≤ 38 := by
  have n2 := hp.n2
  have n3 := hp.n3
  have r3 := hp.r3
  have s3 := hp.s3
  have t2 := hp.t2
  have t0 := hp.t0
  unfold totM Wq longM
  simp
  split <;> omega
theorem rest_le {p : PV} (hp : p.ok) {q s : Int} (h0 : 0 ≤ q) (h1 : q < p.n) (h2 : 0 ≤ s) (h3 : s < p.n) : Wq p q + restM p q s ≤ totM p := by
  have n2 := hp.n2
  have n3 := hp.n3
  have w0 := Wq_pos hp 0
  have w1 := Wq_pos hp 1
  have w2 := Wq_pos hp 2
  have hn : p.n = 2 ∨ p.n = 3 := by omega
  rcases hn with hn | hn
  · have hq : q = 0 ∨ q = 1 := by omega
    have hs : s = 0 ∨ s = 1 := by omega
    rcases hq with rfl | rfl <;> rcases hs with rfl | rfl <;> simp [restM, totM, nextM, hn] <;> omega
  · have hq : q = 0 ∨ q = 1 ∨ q = 2 := by omega
    have hs : s = 0 ∨ s = 1 ∨ s = 2 := by omega
    rcases hq with rfl | rfl | rfl <;> rcases hs with rfl | rfl | rfl <;> simp [restM, totM, nextM, hn] <;> omega
theorem rest_next {p : PV} (hp : p.ok) {q s : Int} (h0 : 0 ≤ q) (h1 : q < p.n) (h2 : 0 ≤ s) (h3 : s < p.n) (hs : s ≠ q) : restM p q s = Wq p (nextM p q) + restM p (nextM p q) s := by
  have n2 := hp.n2
  have n3 := hp.n3
  have hn : p.n = 2 ∨ p.n = 3 := by omega
  rcases hn with hn | hn
  · have hq : q = 0 ∨ q = 1 := by omega
    have hs' : s = 0 ∨ s = 1 := by omega
    rcases hq with rfl | rfl <;> rcases hs' with rfl | rfl <;> simp [restM, nextM, hn] at hs ⊢
  · have hq : q = 0 ∨ q = 1 ∨ q = 2 := by omega
    have hs' : s = 0 ∨ s = 1 ∨ s = 2 := by omega
    rcases hq with rfl | rfl | rfl <;> rcases hs' with rfl | rfl | rfl <;> simp [restM, nextM, hn] at hs ⊢
structure Inv (p : PV) (v : SV) : Prop where
  a : PartP p 0 v.a
  b : PartP p 1 v.b
  tl : v.ts.length = p.n
  cb : p.w = Str.ofString "beat" → 0 ≤ v.cl ∧ v.cl < p.k
  cn : p.w ≠ Str.ofString "beat" → v.cl = 0
  x0 : ∀ s : Int, 0 ≤ s → s < p.n → ∀ x, atS v s = some x → 0 ≤ x
  bd : ∀ s : Int, 0 ≤ s → s < p.n → ∀ x, atS v s = some x → x + (d0M p v + restM p v.a.s s) ≤ totM p
theorem Inv.ok {p : PV} {v : SV} (h : Inv p v) : v.ok p := ⟨h.a.1, h.a.2.1, h.b.1, h.b.2.1, h.tl⟩
theorem PartP.ride {p : PV} {i : Int} {x : PT} (h : PartP p i x) : x.m = Str.ofString "rides" → x.c + 1 ≤ p.r1 := fun m1 => by
  rcases h.2.2 with ⟨_, _, h⟩ | ⟨h, _⟩ | ⟨h, _⟩
  · omega
  · rw [m1] at h; simp at h
  · rw [m1] at h; simp at h
theorem Inv.ride {p : PV} {v : SV} (h : Inv p v) : RideOk p v := ⟨h.a.ride, h.b.ride⟩
theorem d0_bd {p : PV} (hp : p.ok) {v : SV} (h : Inv p v) : 1 ≤ d0M p v ∧ d0M p v ≤ Wq p v.a.s := by
  have w := Wq_pos hp v.a.s
  have r0 := hp.r0
  have r1 := hp.r1
  have s0 := hp.s0
  have s1 := hp.s1
  have t0 := hp.t0
  have hl : 1 ≤ longM p 0 v.a.s := by unfold longM; split <;> omega
  have hx := h.x0 v.a.s h.a.1 h.a.2.1
  unfold d0M
  rcases h.a.2.2 with ⟨m, h1, h2⟩ | ⟨m, h1, h2⟩ | ⟨m, h1⟩
  · simp [m]; unfold Wq; omega
  · simp [m]; unfold Wq; omega
  · rcases hp.hold with ⟨hw, hk⟩ | ⟨hw, hk⟩ | ⟨hw, hk⟩ | ⟨hw, hk⟩
    · simp [hw] at h1
    · simp [m, hw]
      cases ho : atS v v.a.s with
      | none => simp only; omega
      | some x =>
        have := hx x ho
        simp only
        split <;> omega
    · simp [hw] at h1
      simp [m, hw]
      omega
    · have cb := h.cb hw
      simp [m, hw]
      split <;> omega
theorem gap_at {v : SV} {s : Int} : gapM v.ts s = (atS v s).map (· + 1) := rfl
theorem moved_out {p : PV} {i : Int} {x : PT} {e : Bool} {gap : Option Int} {cl : Int} (h : outM x (movedM p i x e gap cl)) (hc : x.m = Str.ofString "stays" ∨ x.m = Str.ofString "held") : movedM p i x e gap cl = ⟨Str.ofString "rides", nextM p x.s, 0⟩ := by
  obtain ⟨h1, h2⟩ := h
  unfold movedM at h2 ⊢
  rw [if_neg h1] at h2 ⊢
  by_cases hc1 : 1 < x.c
  · rw [if_pos hc1] at h2
    exact absurd h2 h1
  · rw [if_neg hc1] at h2 ⊢
    cases hq : waitM p gap cl with
    | none => rfl
    | some u =>
      rw [hq] at h2
      simp only at h2 ⊢
      by_cases hh : x.m = Str.ofString "held" ∧ p.w = Str.ofString "half"
      · rw [if_pos hh]
      · rw [if_neg hh] at h2
        simp at h2
end Pf

set_option Elab.async false
set_option linter.all false
set_option maxRecDepth 100000
set_option maxHeartbeats 4000000
namespace Pf
open PySem L2 DL DL.Ev
theorem tick_a {p : PV} {v : SV} {e0 e1 : Bool} : (tickM p v e0 e1).a = movedM p 0 v.a e0 (gapM v.ts v.a.s) v.cl := rfl
theorem tick_cl {p : PV} {v : SV} {e0 e1 : Bool} : (tickM p v e0 e1).cl = beatM p v.cl := rfl
/-- the second carrier doesn't leave where the first is held for a gap -/
theorem held_keeps {p : PV} {v : SV} {e0 e1 : Bool} (hp : p.ok) (h : Inv p v) (hw : p.w = Str.ofString "gap") (hm : v.a.m = Str.ofString "held") (ho : ¬ outM v.a (tickM p v e0 e1).a) :
    ∃ x, atS v v.a.s = some x ∧ x + 1 < p.k ∧ ¬ (outM v.b (tickM p v e0 e1).b ∧ v.a.s = v.b.s) := by
  have hc : v.a.c = 0 := by
    rcases h.a.2.2 with ⟨m, _⟩ | ⟨m, _⟩ | ⟨_, ⟨hw', _⟩ | ⟨_, hc⟩⟩
    · rw [hm] at m; simp at m
    · rw [hm] at m; simp at m
    · rw [hw] at hw'; simp at hw'
    · exact hc
  have hnr : v.a.m ≠ Str.ofString "rides" := by rw [hm]; simp
  rw [tick_a] at ho
  cases hx : atS v v.a.s with
  | none =>
    refine absurd ⟨hnr, ?_⟩ ho
    rw [gap_at, hx]
    simp [movedM, hnr, hc, waitM, hw]
  | some x =>
    have hlt : x + 1 < p.k := by
      by_cases hk : p.k ≤ x + 1
      · refine absurd ⟨hnr, ?_⟩ ho
        rw [gap_at, hx]
        simp [movedM, hnr, hc, waitM, hw, hk]
      · omega
    refine ⟨x, rfl, hlt, ?_⟩
    rintro ⟨hb, hs⟩
    have e : (tickM p v e0 e1).b = movedM p 1 v.b e1 (gapM (stepM p v.cl 0 v.a e0 ⟨v.ts, [], [], []⟩).now v.b.s) v.cl := rfl
    have en : (stepM p v.cl 0 v.a e0 ⟨v.ts, [], [], []⟩).now = v.ts := by
      unfold stepM
      simp only
      exact if_neg ho
    rw [e, en, ← hs, gap_at, hx] at hb
    obtain ⟨h1, h2⟩ := hb
    unfold movedM at h2
    rw [if_neg h1] at h2
    by_cases hc1 : 1 < v.b.c
    · rw [if_pos hc1] at h2
      exact h1 h2
    · rw [if_neg hc1] at h2
      have : waitM p (Option.map (· + 1) (some x)) v.cl = some 0 := by
        simp [waitM, hw]
        omega
      rw [this] at h2
      simp only at h2
      rw [if_neg (by rw [hw]; simp)] at h2
      simp at h2
theorem d0_step {p : PV} {v : SV} {e0 e1 : Bool} (hp : p.ok) (h : Inv p v) (he : e0 ∈ optsM p v.a) (ho : ¬ outM v.a (tickM p v e0 e1).a) : (tickM p v e0 e1).a.s = v.a.s ∧ d0M p (tickM p v e0 e1) + 1 ≤ d0M p v := by
  have r1 := hp.r1
  have s0 := hp.s0
  have s1 := hp.s1
  have g1 := hp.g1
  have t0 := hp.t0
  have hg0 : ∀ g, gapM v.ts v.a.s = some g → 0 ≤ g := fun g hg => by
    rw [gap_at, Option.map_eq_some_iff] at hg
    obtain ⟨x, hx, rfl⟩ := hg
    have := h.x0 v.a.s h.a.1 h.a.2.1 x hx
    omega
  have hpa := moved_part hp h.a he hg0 v.cl
  rw [← tick_a (e1 := e1)] at hpa
  have nt := new_ts (p := p) h.ok (e0 := e0) (e1 := e1) h.a.1 h.a.2.1
  have hk := fun (z : p.w = Str.ofString "gap") (m : v.a.m = Str.ofString "held") => held_keeps hp h z m ho
  have hx0 := h.x0 v.a.s h.a.1 h.a.2.1
  have hcl : (tickM p v e0 e1).cl = beatM p v.cl := rfl
  have hta := tick_a (p := p) (v := v) (e0 := e0) (e1 := e1)
  generalize tickM p v e0 e1 = v' at *
  rcases h.a.2.2 with ⟨m, c1, c2⟩ | ⟨m, c1, c2⟩ | ⟨m, c1⟩
  · cases e0 with
    | false =>
      have ha : v'.a = ⟨Str.ofString "rides", v.a.s, v.a.c + 1⟩ := by rw [hta]; simp [movedM, m]
      rw [ha]
      refine ⟨rfl, ?_⟩
      simp [d0M, ha, m]
      omega
    | true =>
      have ha : v'.a.m = Str.ofString "stays" ∧ v'.a.s = v.a.s := by rw [hta]; simp [movedM, m]
      refine ⟨ha.2, ?_⟩
      rcases hpa.2.2 with ⟨m', _⟩ | ⟨_, _, q2⟩ | ⟨m', _⟩
      · rw [ha.1] at m'; simp at m'
      · rw [ha.2] at q2
        simp [d0M, ha.1, m]
        omega
      · rw [ha.1] at m'; simp at m'
  · have hnr : v.a.m ≠ Str.ofString "rides" := by rw [m]; simp
    by_cases hc : 1 < v.a.c
    · have ha : v'.a = ⟨v.a.m, v.a.s, v.a.c - 1⟩ := by rw [hta]; simp [movedM, hnr, hc]
      rw [ha]
      refine ⟨rfl, ?_⟩
      simp [d0M, ha, m]
      omega
    · have ha : v'.a.m = Str.ofString "held" ∧ v'.a.s = v.a.s := by
        rw [hta] at ho ⊢
        unfold outM at ho
        unfold movedM at ho ⊢
        rw [if_neg hnr, if_neg hc] at ho ⊢
        cases hq : waitM p (gapM v.ts v.a.s) v.cl with
        | none => rw [hq] at ho; exact absurd ⟨hnr, rfl⟩ ho
        | some u =>
          simp only
          rw [if_neg (by rw [m]; simp)]
          exact ⟨rfl, rfl⟩
      refine ⟨ha.2, ?_⟩
      have hold : d0M p v = v.a.c + 6 := by simp [d0M, m]
      have hnew : d0M p v' ≤ 6 := by
        rcases hp.hold with ⟨hw, hk'⟩ | ⟨hw, hk'⟩ | ⟨hw, hk'⟩ | ⟨hw, hk'⟩
        · rcases hpa.2.2 with ⟨m', _⟩ | ⟨m', _⟩ | ⟨_, q⟩
          · rw [ha.1] at m'; simp at m'
          · rw [ha.1] at m'; simp at m'
          · simp [hw] at q
        · have hxx : ∀ x, atS v' v.a.s = some x → 0 ≤ x := fun x hx => by
            rw [nt] at hx
            by_cases hq : outM v.a v'.a ∧ v.a.s = v.a.s ∨ outM v.b v'.b ∧ v.a.s = v.b.s
            · rw [if_pos hq] at hx; cases hx; omega
            · rw [if_neg hq, Option.map_eq_some_iff] at hx
              obtain ⟨y, hy, rfl⟩ := hx
              have := hx0 y hy
              omega
          simp [d0M, ha.1, ha.2, hw]
          cases hz : atS v' v.a.s with
          | none => simp
          | some x =>
            have := hxx x hz
            simp only
            split <;> omega
        · rcases hpa.2.2 with ⟨m', _⟩ | ⟨m', _⟩ | ⟨_, ⟨_, q1, q2⟩ | ⟨q | q, _⟩⟩
          · rw [ha.1] at m'; simp at m'
          · rw [ha.1] at m'; simp at m'
          · simp [d0M, ha.1, hw]; omega
          · rw [hw] at q; simp at q
          · rw [hw] at q; simp at q
        · have cb := h.cb hw
          have hb : 0 ≤ v'.cl ∧ v'.cl < p.k := by
            rw [hcl]
            simp only [beatM, hw, if_true]
            exact ⟨Int.emod_nonneg _ (by omega), Int.emod_lt_of_pos _ (by omega)⟩
          simp [d0M, ha.1, hw]
          split <;> omega
      omega
  · have hnr : v.a.m ≠ Str.ofString "rides" := by rw [m]; simp
    by_cases hc : 1 < v.a.c
    · have ha : v'.a = ⟨v.a.m, v.a.s, v.a.c - 1⟩ := by rw [hta]; simp [movedM, hnr, hc]
      rw [ha]
      refine ⟨rfl, ?_⟩
      rcases c1 with ⟨hw, _⟩ | ⟨_, c1⟩
      · simp [d0M, ha, m, hw]
      · omega
    · have hh : ¬ p.w = Str.ofString "half" := fun hw => by
        refine ho ?_
        rw [hta]
        refine ⟨hnr, ?_⟩
        unfold movedM
        rw [if_neg hnr, if_neg hc]
        cases hq : waitM p (gapM v.ts v.a.s) v.cl with
        | none => rfl
        | some u => simp only; rw [if_pos ⟨m, hw⟩]
      have ha : v'.a.m = Str.ofString "held" ∧ v'.a.s = v.a.s := by
        rw [hta] at ho ⊢
        unfold outM at ho
        unfold movedM at ho ⊢
        rw [if_neg hnr, if_neg hc] at ho ⊢
        cases hq : waitM p (gapM v.ts v.a.s) v.cl with
        | none => rw [hq] at ho; exact absurd ⟨hnr, rfl⟩ ho
        | some u =>
          simp only
          rw [if_neg (fun z => hh z.2)]
          exact ⟨rfl, rfl⟩
      refine ⟨ha.2, ?_⟩
      rcases c1 with ⟨hw, _⟩ | ⟨hw | hw, c1⟩
      · exact absurd hw hh
      · obtain ⟨x, q1, q2, q3⟩ := hk hw m
        have hno : ¬ ((outM v.a v'.a ∧ v.a.s = v.a.s) ∨ (outM v.b v'.b ∧ v.a.s = v.b.s)) := fun z => z.elim (fun z => ho z.1) q3
        rw [if_neg hno, q1] at nt
        simp [d0M, ha.1, ha.2, hw, m, q1, nt]
        split <;> split <;> omega
      · have cb := h.cb hw
        have hne : v.cl ≠ 0 := fun hz => by
          refine ho ?_
          rw [hta]
          refine ⟨hnr, ?_⟩
          unfold movedM
          rw [if_neg hnr, if_neg hc]
          have : waitM p (gapM v.ts v.a.s) v.cl = none := by simp [waitM, hw, hz]
          rw [this]
        have hb : v'.cl = if v.cl + 1 = p.k then 0 else v.cl + 1 := by
          rw [hcl]
          simp only [beatM, hw, if_true]
          split
          · rename_i z; rw [z, Int.emod_self]
          · rw [Int.emod_eq_of_lt (by omega) (by omega)]
        simp [d0M, ha.1, hw, m, hne]
        rw [hb]
        split <;> split <;> omega
end Pf

set_option Elab.async false
set_option linter.all false
set_option maxRecDepth 100000
set_option maxHeartbeats 4000000
namespace Pf
open PySem L2 DL DL.Ev
theorem d0_ride {p : PV} {v : SV} {q : Int} (h : v.a = ⟨Str.ofString "rides", q, 0⟩) : d0M p v = Wq p q := by
  simp [d0M, h, Wq]
theorem inv_step {p : PV} {v : SV} {c : Bool × Bool} (hp : p.ok) (h : Inv p v) (hc : c ∈ choM p v) : Inv p (tickM p v c.1 c.2) := by
  obtain ⟨x, y⟩ := c
  simp only [choM, List.mem_flatMap, List.mem_map, Prod.mk.injEq] at hc
  have hxy : x ∈ optsM p v.a ∧ y ∈ optsM p v.b := by
    obtain ⟨x', hx, y', hy, rfl, rfl⟩ := hc
    exact ⟨hx, hy⟩
  clear hc
  obtain ⟨hx, hy⟩ := hxy
  show Inv p (tickM p v x y)
  have hv := h.ok
  have hx0 := h.x0
  have nt := fun {s : Int} => new_ts (p := p) hv (e0 := x) (e1 := y) (s := s)
  have hg0 : ∀ g, gapM v.ts v.a.s = some g → 0 ≤ g := fun g hg => by
    rw [gap_at, Option.map_eq_some_iff] at hg
    obtain ⟨x, hx, rfl⟩ := hg
    have := hx0 v.a.s h.a.1 h.a.2.1 x hx
    omega
  have hl : (stepM p v.cl 0 v.a x ⟨v.ts, [], [], []⟩).now.length = v.ts.length := stepM_len.1
  have hg1 : ∀ g, gapM (stepM p v.cl 0 v.a x ⟨v.ts, [], [], []⟩).now v.b.s = some g → 0 ≤ g := fun g hg => by
    unfold gapM at hg
    rw [Option.map_eq_some_iff] at hg
    obtain ⟨z, hz, rfl⟩ := hg
    have : -1 ≤ z := by
      unfold stepM at hz
      simp only at hz
      split at hz
      · by_cases hs : v.a.s.toNat = v.b.s.toNat
        · rw [hs, List.getElem?_set] at hz
          simp at hz
          split at hz
          · simp at hz; omega
          · simp at hz
        · rw [List.getElem?_set_ne hs] at hz
          have := hx0 v.b.s h.b.1 h.b.2.1 z hz
          omega
      · have := hx0 v.b.s h.b.1 h.b.2.1 z hz
        omega
    omega
  have ha' : PartP p 0 (tickM p v x y).a := moved_part hp h.a hx hg0 v.cl
  have hb' : PartP p 1 (tickM p v x y).b := moved_part hp h.b hy hg1 v.cl
  have step := fun ho => d0_step (e1 := y) hp h hx ho
  have x0' : ∀ s : Int, 0 ≤ s → s < p.n → ∀ z, atS (tickM p v x y) s = some z → 0 ≤ z := fun s h0 h1 z hz => by
    rw [nt h0 h1] at hz
    split at hz
    · cases hz; omega
    · rw [Option.map_eq_some_iff] at hz
      obtain ⟨w, hw, rfl⟩ := hz
      have := hx0 s h0 h1 w hw
      omega
  refine ⟨ha', hb', (tick_ok (e0 := x) (e1 := y) hv).tl, fun hw => ?_, fun hw => ?_, x0', fun s h0 h1 z hz => ?_⟩
  · have cb := h.cb hw
    rw [tick_cl]
    simp only [beatM, hw, if_true]
    exact ⟨Int.emod_nonneg _ (by omega), Int.emod_lt_of_pos _ (by omega)⟩
  · rw [tick_cl]
    simp only [beatM, hw, if_false]
  · have dbd := d0_bd hp h
    have all := fun {q s : Int} => rest_le hp (q := q) (s := s)
    rw [nt h0 h1] at hz
    by_cases ho : outM v.a (tickM p v x y).a
    · have hst : v.a.m = Str.ofString "stays" ∨ v.a.m = Str.ofString "held" := by
        rcases h.a.2.2 with ⟨m, _⟩ | ⟨m, _⟩ | ⟨m, _⟩
        · exact absurd m ho.1
        · exact .inl m
        · exact .inr m
      have hq : (tickM p v x y).a = ⟨Str.ofString "rides", nextM p v.a.s, 0⟩ := moved_out ho hst
      have hd := d0_ride (p := p) hq
      have nx := next_in h.a.1 h.a.2.1
      have t1 := all nx.1 nx.2 h0 h1
      have hqs : (tickM p v x y).a.s = nextM p v.a.s := by rw [hq]
      rw [hd, hqs]
      split at hz
      · cases hz; omega
      · rename_i hn
        rw [Option.map_eq_some_iff] at hz
        obtain ⟨w, hw, rfl⟩ := hz
        have hs : s ≠ v.a.s := fun e => hn (.inl ⟨ho, e⟩)
        have b := h.bd s h0 h1 w hw
        have rn := rest_next hp h.a.1 h.a.2.1 h0 h1 hs
        omega
    · obtain ⟨hs, hd⟩ := step ho
      have t1 := all h.a.1 h.a.2.1 h0 h1
      rw [hs]
      split at hz
      · cases hz; omega
      · rw [Option.map_eq_some_iff] at hz
        obtain ⟨w, hw, rfl⟩ := hz
        have b := h.bd s h0 h1 w hw
        omega
theorem inv_first {p : PV} (hp : p.ok) : Inv p (firstM p) := by
  have n2 := hp.n2
  have s0 := hp.s0
  have s1 := hp.s1
  have t0 := hp.t0
  have b0 := hp.b0
  have bn := hp.bn
  have hat : ∀ s : Int, atS (firstM p) s = none := fun s => by
    unfold atS firstM
    simp only
    rw [List.getElem?_replicate]
    split <;> rfl
  have hl : ∀ i s, 1 ≤ longM p i s := fun i s => by unfold longM; split <;> omega
  refine ⟨⟨by show (0 : Int) ≤ 0; omega, by show (0 : Int) < p.n; omega, .inr (.inl ⟨rfl, by show (1 : Int) ≤ 1; omega, hl _ _⟩)⟩, ⟨b0, bn, .inr (.inl ⟨rfl, by show (1 : Int) ≤ 1; omega, hl _ _⟩)⟩, by simp [firstM], fun hw => ?_, fun _ => rfl, fun s _ _ x hx => ?_, fun s _ _ x hx => ?_⟩
  · have := hp.beat hw
    show (0 : Int) ≤ 0 ∧ (0 : Int) < p.k
    omega
  · rw [hat] at hx; cases hx
  · rw [hat] at hx; cases hx
theorem Inv.stand {p : PV} {v : SV} (hp : p.ok) (h : Inv p v) : standB p v.d = true := by
  have tl := h.tl
  have ht : ticksB (v.ts.map oD) = true := by
    unfold ticksB
    rw [List.all_map, List.all_eq_true]
    intro o ho
    obtain ⟨j, hj, rfl⟩ := List.getElem_of_mem ho
    have hz : atS v (j : Int) = v.ts[j] := by unfold atS; simp [hj]
    cases hx : v.ts[j] with
    | none => simp [tickB]
    | some x =>
      rw [hx] at hz
      have h0 := h.x0 (j : Int) (by omega) (by omega) x hz
      have hb := h.bd (j : Int) (by omega) (by omega) x hz
      have d := d0_bd hp h
      have t := tot_le hp
      have r : 0 ≤ restM p v.a.s (j : Int) := by
        have w1 := Wq_pos hp (nextM p v.a.s)
        have w2 := Wq_pos hp (nextM p (nextM p v.a.s))
        unfold restM
        split
        · omega
        · split <;> omega
      simp [tickB, wIn]
      omega
  have hc : wIn (.int v.cl) 0 (if p.w = Str.ofString "beat" then p.k - 1 else 0) = true := by
    by_cases hw : p.w = Str.ofString "beat"
    · have := h.cb hw
      simp [wIn, hw]
      omega
    · have := h.cn hw
      simp [wIn, hw, this]
  show standB p (.tuple [.tuple [v.a.d, v.b.d], .tuple (v.ts.map oD), .int v.cl]) = true
  simp only [standB, h.a.b, h.b.b, ht, hc, List.length_map, tl]
  simp
end Pf

set_option Elab.async false
set_option linter.all false
set_option maxRecDepth 100000
set_option maxHeartbeats 4000000
namespace Pf
open PySem L2 DL DL.Ev
/-! how many stands there can be -/
instance : DecidableEq PT := fun a b =>
  if h : a.m = b.m ∧ a.s = b.s ∧ a.c = b.c then isTrue (by cases a; cases b; simp only [PT.mk.injEq]; exact h) else isFalse fun e => h (by subst e; exact ⟨rfl, rfl, rfl⟩)
instance : DecidableEq SV := fun a b =>
  if h : a.a = b.a ∧ a.b = b.b ∧ a.ts = b.ts ∧ a.cl = b.cl then isTrue (by cases a; cases b; simp only [SV.mk.injEq]; exact h) else isFalse fun e => h (by subst e; exact ⟨rfl, rfl, rfl, rfl⟩)
theorem nodup_sub {α : Type} [DecidableEq α] : ∀ {xs ys : List α}, xs.Nodup → (∀ x ∈ xs, x ∈ ys) → xs.length ≤ ys.length
  | [], ys, _, _ => Nat.zero_le _
  | x :: xs, ys, nd, h => by
    obtain ⟨n1, n2⟩ := List.nodup_cons.mp nd
    have hx := h x (by simp)
    have h2 : ∀ y ∈ xs, y ∈ ys.erase x := fun y hy => (List.mem_erase_of_ne (fun z : y = x => n1 (by rw [← z]; exact hy))).mpr (h y (by simp [hy]))
    have ih := nodup_sub n2 h2
    rw [List.length_erase_of_mem hx] at ih
    have : 0 < ys.length := List.length_pos_of_mem hx
    simp only [List.length_cons]
    omega
theorem flat_len {α β : Type} {f : α → List β} {m : Nat} : ∀ {xs : List α}, (∀ x ∈ xs, (f x).length ≤ m) → (xs.flatMap f).length ≤ xs.length * m
  | [], _ => by simp
  | x :: xs, h => by
    have ih := flat_len (xs := xs) fun y hy => h y (by simp [hy])
    have hx := h x (by simp)
    simp only [List.flatMap_cons, List.length_append, List.length_cons, Nat.succ_mul]
    omega
/-- 0 .. n - 1 -/
def upI (n : Nat) : List Int := (List.range n).map fun (i : Nat) => (i : Int)
theorem mem_up {n : Nat} {i : Int} (h0 : 0 ≤ i) (h1 : i < n) : i ∈ upI n := List.mem_map.mpr ⟨i.toNat, List.mem_range.mpr (by omega), by omega⟩
theorem up_len {n : Nat} : (upI n).length = n := by simp [upI]
def upO (n : Nat) : List (Option Int) := none :: (upI n).map some
theorem mem_upO {n : Nat} {o : Option Int} (h : ∀ x, o = some x → 0 ≤ x ∧ x < n) : o ∈ upO n := by
  cases o with
  | none => simp [upO]
  | some x => exact List.mem_cons_of_mem _ (List.mem_map.mpr ⟨x, mem_up (h x rfl).1 (h x rfl).2, rfl⟩)
theorem upO_len {n : Nat} : (upO n).length = n + 1 := by simp [upO, up_len]
/-- the ticks since the leavings: at the first carrier's stop, at the next one(s) -/
def rotM (q : Int) (x y z : Option Int) : List (Option Int) := if q = 0 then [x, y, z] else if q = 1 then [z, x, y] else [y, z, x]
def rot2M (q : Int) (x y : Option Int) : List (Option Int) := if q = 0 then [x, y] else [y, x]
def tsL (n : Nat) (q : Int) (e : Nat) : List (List (Option Int)) :=
  if n = 2 then (upO (e + 15)).flatMap fun x => (upO (e + 1)).map fun y => rot2M q x y
  else (upO (e + 27)).flatMap fun x => (upO (e + 15)).flatMap fun y => (upO (e + 1)).map fun z => rotM q x y z
def tsN (n e : Nat) : Nat := if n = 2 then (e + 16) * (e + 2) else (e + 28) * ((e + 16) * (e + 2))
theorem tsL_len {n : Nat} {q : Int} {e : Nat} : (tsL n q e).length ≤ tsN n e := by
  unfold tsL tsN
  split
  · refine Nat.le_trans (flat_len (m := e + 2) fun x _ => ?_) ?_
    · simp [upO_len]
    · rw [upO_len]; exact Nat.le_refl _
  · refine Nat.le_trans (flat_len (m := (e + 16) * (e + 2)) fun x _ => ?_) ?_
    · refine Nat.le_trans (flat_len (m := e + 2) fun y _ => ?_) ?_
      · simp [upO_len]
      · rw [upO_len]; exact Nat.le_refl _
    · rw [upO_len]; exact Nat.le_refl _
/-- a part, with how much is left of the stop's time -/
def paL (hs : Nat) (q : Int) : List (PT × Nat) := ((upI 3).map fun c => (⟨Str.ofString "rides", q, c⟩, 2)) ++ ((upI 6).drop 1).map (fun c => (⟨Str.ofString "stays", q, c⟩, 7)) ++ (upI hs).map fun c => (⟨Str.ofString "held", q, c⟩, 13)
def pbL (hs : Nat) (q : Int) : List PT := ((upI 3).map fun c => ⟨Str.ofString "rides", q, c⟩) ++ ((upI 4).drop 1).map (fun c => ⟨Str.ofString "stays", q, c⟩) ++ (upI hs).map fun c => ⟨Str.ofString "held", q, c⟩
def allL (n hs ks : Nat) : List SV := (upI n).flatMap fun q => (paL hs q).flatMap fun a => (tsL n q a.2).flatMap fun ts => (upI n).flatMap fun r => (pbL hs r).flatMap fun b => (upI ks).map fun cl => ⟨a.1, b, ts, cl⟩
def allN (n hs ks : Nat) : Nat := n * (3 * (tsN n 2 * (n * ((6 + hs) * ks))) + 5 * (tsN n 7 * (n * ((6 + hs) * ks))) + hs * (tsN n 13 * (n * ((6 + hs) * ks))))
theorem allL_len {n hs ks : Nat} : (allL n hs ks).length ≤ allN n hs ks := by
  have inner : ∀ (a : PT) (ts : List (Option Int)), ((upI n).flatMap fun r => (pbL hs r).flatMap fun b => (upI ks).map fun cl => (⟨a, b, ts, cl⟩ : SV)).length ≤ n * ((6 + hs) * ks) := fun a ts => by
    refine Nat.le_trans (flat_len (m := (6 + hs) * ks) fun r _ => ?_) ?_
    · refine Nat.le_trans (flat_len (m := ks) fun b _ => by simp [up_len]) ?_
      have : (pbL hs r).length = 6 + hs := by simp [pbL, up_len]; omega
      rw [this]
      exact Nat.le_refl _
    · rw [up_len]; exact Nat.le_refl _
  have mid : ∀ (a : PT × Nat) (q : Int), ((tsL n q a.2).flatMap fun ts => (upI n).flatMap fun r => (pbL hs r).flatMap fun b => (upI ks).map fun cl => (⟨a.1, b, ts, cl⟩ : SV)).length ≤ tsN n a.2 * (n * ((6 + hs) * ks)) := fun a q => by
    refine Nat.le_trans (flat_len (m := n * ((6 + hs) * ks)) fun ts _ => inner a.1 ts) ?_
    exact Nat.mul_le_mul_right _ tsL_len
  unfold allL allN
  refine Nat.le_trans (flat_len (m := _) fun q _ => ?_) (by rw [up_len]; exact Nat.le_refl _)
  unfold paL
  rw [List.flatMap_append, List.flatMap_append, List.length_append, List.length_append]
  refine Nat.add_le_add (Nat.add_le_add ?_ ?_) ?_
  · refine Nat.le_trans (flat_len (m := tsN n 2 * (n * ((6 + hs) * ks))) fun a ha => ?_) (by simp [up_len])
    obtain ⟨c, _, rfl⟩ := List.mem_map.mp ha
    exact mid _ q
  · refine Nat.le_trans (flat_len (m := tsN n 7 * (n * ((6 + hs) * ks))) fun a ha => ?_) (by simp [up_len])
    obtain ⟨c, _, rfl⟩ := List.mem_map.mp ha
    exact mid _ q
  · refine Nat.le_trans (flat_len (m := tsN n 13 * (n * ((6 + hs) * ks))) fun a ha => ?_) (by simp [up_len])
    obtain ⟨c, _, rfl⟩ := List.mem_map.mp ha
    exact mid _ q
theorem W_le {p : PV} (hp : p.ok) (q : Int) : Wq p q ≤ 12 + (if q = 0 then 2 else 0) := by
  have r3 := hp.r3
  have s3 := hp.s3
  have t2 := hp.t2
  unfold Wq longM
  simp only [true_and]
  split <;> omega
/-- what is left of the stop's time -/
theorem left_le {p : PV} (hp : p.ok) {v : SV} (h : Inv p v) : ∃ e : Nat, Wq p v.a.s - d0M p v ≤ e ∧ (v.a, e) ∈ paL (if p.w = Str.ofString "beat" then 1 else 4) v.a.s := by
  have r3 := hp.r3
  have s3 := hp.s3
  have t2 := hp.t2
  have t0 := hp.t0
  have hl : longM p 0 v.a.s ≤ 5 := by unfold longM; split <;> omega
  have d := d0_bd hp h
  have w := W_le hp v.a.s
  have w' : Wq p v.a.s ≤ 14 := by split at w <;> omega
  have e0 : v.a = ⟨v.a.m, v.a.s, v.a.c⟩ := rfl
  rcases h.a.2.2 with ⟨m, c1, c2⟩ | ⟨m, c1, c2⟩ | ⟨m, c1⟩
  · refine ⟨2, ?_, ?_⟩
    · simp [d0M, m, Wq]; omega
    · unfold paL
      refine List.mem_append_left _ (List.mem_append_left _ (List.mem_map.mpr ⟨v.a.c, mem_up c1 (by omega), ?_⟩))
      rw [e0, m]
  · refine ⟨7, ?_, ?_⟩
    · simp [d0M, m, Wq]; omega
    · unfold paL
      refine List.mem_append_left _ (List.mem_append_right _ (List.mem_map.mpr ⟨v.a.c, ?_, ?_⟩))
      · have : v.a.c = 1 ∨ v.a.c = 2 ∨ v.a.c = 3 ∨ v.a.c = 4 ∨ v.a.c = 5 := by omega
        rcases this with z | z | z | z | z <;> rw [z] <;> decide
      · rw [e0, m]
  · refine ⟨13, by omega, ?_⟩
    have hc : 0 ≤ v.a.c ∧ v.a.c < ((if p.w = Str.ofString "beat" then 1 else 4 : Nat) : Int) := by
      rcases c1 with ⟨hw, c3, c4⟩ | ⟨hw | hw, c3⟩
      · have := hp.k0
        rw [hw, if_neg (by simp)]
        omega
      · rw [hw, if_neg (by simp)]
        omega
      · rw [if_pos hw]
        omega
    unfold paL
    refine List.mem_append_right _ (List.mem_map.mpr ⟨v.a.c, mem_up hc.1 hc.2, ?_⟩)
    rw [e0, m]
theorem ts_in {p : PV} (hp : p.ok) {v : SV} (h : Inv p v) {e : Nat} (he : Wq p v.a.s - d0M p v ≤ e) : v.ts ∈ tsL p.n v.a.s e := by
  have n2 := hp.n2
  have n3 := hp.n3
  have tl := h.tl
  have w0 := W_le hp 0
  have w1 := W_le hp 1
  have w2 := W_le hp 2
  simp at w0 w1 w2
  have a0 := h.a.1
  have a1 := h.a.2.1
  have x0 := h.x0
  have bd := h.bd
  have key : ∀ (s : Int) (m : Nat), 0 ≤ s → s < p.n → totM p - d0M p v - restM p v.a.s s < m → atS v s ∈ upO m := fun s m h0 h1 hm => mem_upO fun x hx => by
    have := x0 s h0 h1 x hx
    have := bd s h0 h1 x hx
    omega
  have hn : p.n = 2 ∨ p.n = 3 := by omega
  rcases hn with hn | hn
  · match hts : v.ts, tl with
    | [x, y], _ =>
      have q0 : atS v 0 = x := by simp [atS, hts]
      have q1 : atS v 1 = y := by simp [atS, hts]
      have hq : v.a.s = 0 ∨ v.a.s = 1 := by omega
      unfold tsL
      rw [if_pos hn]
      rcases hq with hq | hq
      · rw [hq] at he ⊢
        have k0 := key 0 (e + 15) (by omega) (by omega) (by simp [restM, totM, hn, hq]; omega)
        have k1 := key 1 (e + 1) (by omega) (by omega) (by simp [restM, totM, nextM, hn, hq]; omega)
        rw [q0] at k0
        rw [q1] at k1
        exact List.mem_flatMap.mpr ⟨x, k0, List.mem_map.mpr ⟨y, k1, rfl⟩⟩
      · rw [hq] at he ⊢
        have k0 := key 1 (e + 15) (by omega) (by omega) (by simp [restM, totM, hn, hq]; omega)
        have k1 := key 0 (e + 1) (by omega) (by omega) (by simp [restM, totM, nextM, hn, hq]; omega)
        rw [q1] at k0
        rw [q0] at k1
        exact List.mem_flatMap.mpr ⟨y, k0, List.mem_map.mpr ⟨x, k1, rfl⟩⟩
    | [], tl => simp at tl; omega
    | [x], tl => simp at tl; omega
    | x :: y :: z :: r, tl => simp at tl; omega
  · match hts : v.ts, tl with
    | [x, y, z], _ =>
      have q0 : atS v 0 = x := by simp [atS, hts]
      have q1 : atS v 1 = y := by simp [atS, hts]
      have q2 : atS v 2 = z := by simp [atS, hts]
      have hq : v.a.s = 0 ∨ v.a.s = 1 ∨ v.a.s = 2 := by omega
      unfold tsL
      rw [if_neg (by omega)]
      rcases hq with hq | hq | hq
      · rw [hq] at he ⊢
        have k0 := key 0 (e + 27) (by omega) (by omega) (by simp [restM, totM, hn, hq]; omega)
        have k1 := key 1 (e + 15) (by omega) (by omega) (by simp [restM, totM, nextM, hn, hq]; omega)
        have k2 := key 2 (e + 1) (by omega) (by omega) (by simp [restM, totM, nextM, hn, hq]; omega)
        rw [q0] at k0
        rw [q1] at k1
        rw [q2] at k2
        exact List.mem_flatMap.mpr ⟨x, k0, List.mem_flatMap.mpr ⟨y, k1, List.mem_map.mpr ⟨z, k2, rfl⟩⟩⟩
      · rw [hq] at he ⊢
        have k0 := key 1 (e + 27) (by omega) (by omega) (by simp [restM, totM, hn, hq]; omega)
        have k1 := key 2 (e + 15) (by omega) (by omega) (by simp [restM, totM, nextM, hn, hq]; omega)
        have k2 := key 0 (e + 1) (by omega) (by omega) (by simp [restM, totM, nextM, hn, hq]; omega)
        rw [q1] at k0
        rw [q2] at k1
        rw [q0] at k2
        exact List.mem_flatMap.mpr ⟨y, k0, List.mem_flatMap.mpr ⟨z, k1, List.mem_map.mpr ⟨x, k2, rfl⟩⟩⟩
      · rw [hq] at he ⊢
        have k0 := key 2 (e + 27) (by omega) (by omega) (by simp [restM, totM, hn, hq]; omega)
        have k1 := key 0 (e + 15) (by omega) (by omega) (by simp [restM, totM, nextM, hn, hq]; omega)
        have k2 := key 1 (e + 1) (by omega) (by omega) (by simp [restM, totM, nextM, hn, hq]; omega)
        rw [q2] at k0
        rw [q0] at k1
        rw [q1] at k2
        exact List.mem_flatMap.mpr ⟨z, k0, List.mem_flatMap.mpr ⟨x, k1, List.mem_map.mpr ⟨y, k2, rfl⟩⟩⟩
    | [], tl => simp at tl; omega
    | [x], tl => simp at tl; omega
    | [x, y], tl => simp at tl; omega
    | x :: y :: z :: u :: r, tl => simp at tl; omega
theorem part_in {p : PV} (hp : p.ok) {x : PT} (h : PartP p 1 x) : x ∈ pbL (if p.w = Str.ofString "beat" then 1 else 4) x.s := by
  have r3 := hp.r3
  have s3 := hp.s3
  have e0 : x = ⟨x.m, x.s, x.c⟩ := rfl
  have hl : longM p 1 x.s ≤ 3 := by unfold longM; simp; omega
  rcases h.2.2 with ⟨m, c1, c2⟩ | ⟨m, c1, c2⟩ | ⟨m, c1⟩
  · unfold pbL
    refine List.mem_append_left _ (List.mem_append_left _ (List.mem_map.mpr ⟨x.c, mem_up c1 (by omega), ?_⟩))
    rw [← m]
  · unfold pbL
    refine List.mem_append_left _ (List.mem_append_right _ (List.mem_map.mpr ⟨x.c, ?_, ?_⟩))
    · have : x.c = 1 ∨ x.c = 2 ∨ x.c = 3 := by omega
      rcases this with z | z | z <;> rw [z] <;> decide
    · rw [← m]
  · have hc : 0 ≤ x.c ∧ x.c < ((if p.w = Str.ofString "beat" then 1 else 4 : Nat) : Int) := by
      rcases c1 with ⟨hw, c3, c4⟩ | ⟨hw | hw, c3⟩
      · have := hp.k0
        rw [hw, if_neg (by simp)]
        omega
      · rw [hw, if_neg (by simp)]
        omega
      · rw [if_pos hw]
        omega
    unfold pbL
    refine List.mem_append_right _ (List.mem_map.mpr ⟨x.c, mem_up hc.1 hc.2, ?_⟩)
    rw [← m]
theorem stand_in {p : PV} (hp : p.ok) {v : SV} (h : Inv p v) : v ∈ allL p.n (if p.w = Str.ofString "beat" then 1 else 4) (if p.w = Str.ofString "beat" then 4 else 1) := by
  obtain ⟨e, h1, h2⟩ := left_le hp h
  have h3 := ts_in hp h h1
  have h4 := part_in hp h.b
  have hcl : v.cl ∈ upI (if p.w = Str.ofString "beat" then 4 else 1) := by
    by_cases hw : p.w = Str.ofString "beat"
    · have cb := h.cb hw
      have kb := hp.beat hw
      rw [if_pos hw]
      exact mem_up cb.1 (by omega)
    · rw [if_neg hw, h.cn hw]
      exact mem_up (by omega) (by omega)
  unfold allL
  exact List.mem_flatMap.mpr ⟨v.a.s, mem_up h.a.1 h.a.2.1, List.mem_flatMap.mpr ⟨(v.a, e), h2, List.mem_flatMap.mpr ⟨v.ts, h3, List.mem_flatMap.mpr ⟨v.b.s, mem_up h.b.1 h.b.2.1, List.mem_flatMap.mpr ⟨v.b, h4, List.mem_map.mpr ⟨v.cl, hcl, rfl⟩⟩⟩⟩⟩⟩
/-- stands that differ are fewer than a list can hold -/
theorem few_stands {p : PV} (hp : p.ok) {L : List SV} (nd : L.Nodup) (h : ∀ v ∈ L, Inv p v) : L.length < 16700000 ∧ (p.n = 2 → L.length < 300000) := by
  have h1 := nodup_sub nd fun v hv => stand_in hp (h v hv)
  have h2 := Nat.le_trans h1 allL_len
  have n2 := hp.n2
  have n3 := hp.n3
  have hn : p.n = 2 ∨ p.n = 3 := by omega
  by_cases hw : p.w = Str.ofString "beat"
  · rw [if_pos hw, if_pos hw] at h2
    rcases hn with hn | hn
    · rw [hn] at h2 ⊢
      have : allN 2 1 4 ≤ 299999 := by decide
      omega
    · rw [hn] at h2 ⊢
      have : allN 3 1 4 ≤ 16699999 := by decide
      omega
  · rw [if_neg hw, if_neg hw] at h2
    rcases hn with hn | hn
    · rw [hn] at h2 ⊢
      have : allN 2 4 1 ≤ 299999 := by decide
      omega
    · rw [hn] at h2 ⊢
      have : allN 3 4 1 ≤ 16699999 := by decide
      omega
end Pf

set_option Elab.async false
set_option linter.all false
set_option maxRecDepth 100000
set_option maxHeartbeats 4000000
namespace Pf
open PySem L2 DL DL.Ev
/-! runs -/
abbrev RunM := List (Bool × Bool)
def endM (p : PV) : SV → RunM → SV
  | v, [] => v
  | v, c :: cs => endM p (tickM p v c.1 c.2) cs
def validM (p : PV) : SV → RunM → Prop
  | _, [] => True
  | v, c :: cs => c ∈ choM p v ∧ validM p (tickM p v c.1 c.2) cs
theorem endM_snoc {p : PV} : ∀ {cs : RunM} {v : SV} {c : Bool × Bool}, endM p v (cs ++ [c]) = tickM p (endM p v cs) c.1 c.2
  | [], _, _ => rfl
  | _ :: cs, _, _ => endM_snoc (cs := cs)
theorem validM_snoc {p : PV} : ∀ {cs : RunM} {v : SV} {c : Bool × Bool}, validM p v cs → c ∈ choM p (endM p v cs) → validM p v (cs ++ [c])
  | [], _, _, _, h => ⟨h, trivial⟩
  | _ :: cs, _, _, h, k => ⟨h.1, validM_snoc (cs := cs) h.2 k⟩
theorem inv_end {p : PV} (hp : p.ok) : ∀ {cs : RunM} {v : SV}, Inv p v → validM p v cs → Inv p (endM p v cs)
  | [], _, h, _ => h
  | _ :: cs, _, h, k => inv_end hp (cs := cs) (inv_step hp h k.1) k.2
/-! the walk through all stands -/
abbrev WL := List (SV × RunM)
def addM (p : PV) (v : SV) (r : RunM) (fs : WL) (c : Bool × Bool) : WL :=
  if tickM p v c.1 c.2 ∈ fs.map (·.1) then fs else fs ++ [(tickM p v c.1 c.2, r ++ [c])]
def expM (p : PV) (fs : WL) (x : SV × RunM) : WL := (choM p x.1).foldl (addM p x.1 x.2) fs
def bfsN (p : PV) : Nat → WL → Nat → WL
  | 0, fs, _ => fs
  | n + 1, fs, k => match fs[k]? with
    | none => fs
    | some x => bfsN p n (expM p fs x) (k + 1)
def waysM (p : PV) : WL := bfsN p 16700000 [(firstM p, [])] 0
structure BI (p : PV) (fs : WL) (k : Nat) : Prop where
  nd : (fs.map (·.1)).Nodup
  hd : fs[0]? = some (firstM p, [])
  run : ∀ x ∈ fs, validM p (firstM p) x.2 ∧ endM p (firstM p) x.2 = x.1
  len : ∀ (i : Nat) x, fs[i]? = some x → x.2.length ≤ i
  mono : ∀ (i j : Nat) x y, i ≤ j → fs[i]? = some x → fs[j]? = some y → x.2.length ≤ y.2.length
  top : ∀ x y, fs[k]? = some x → y ∈ fs → y.2.length ≤ x.2.length + 1
  cl : ∀ (i : Nat), i < k → ∀ x, fs[i]? = some x → ∀ c ∈ choM p x.1, ∃ y ∈ fs, y.1 = tickM p x.1 c.1 c.2 ∧ y.2.length ≤ x.2.length + 1
  le : k ≤ fs.length
section
variable {p : PV} {fs : WL} {k : Nat}
theorem BI.inv (hp : p.ok) (h : BI p fs k) {x : SV × RunM} (hx : x ∈ fs) : Inv p x.1 := by
  obtain ⟨h1, h2⟩ := h.run x hx
  rw [← h2]
  exact inv_end hp (inv_first hp) h1
theorem BI.few (hp : p.ok) (h : BI p fs k) : fs.length < 16700000 ∧ (p.n = 2 → fs.length < 300000) := by
  have := few_stands hp h.nd fun v hv => by
    obtain ⟨x, hx, rfl⟩ := List.mem_map.mp hv
    exact h.inv hp hx
  simpa using this
theorem BI.first : BI p [(firstM p, [])] 0 := by
  refine ⟨by simp, rfl, fun x hx => ?_, fun i x hx => ?_, fun i j x y _ hx hy => ?_, fun x y hx hy => ?_, fun i hi => absurd hi (Nat.not_lt_zero _), Nat.zero_le _⟩
  · rw [List.mem_singleton] at hx
    subst hx
    exact ⟨trivial, rfl⟩
  · cases i with
    | zero => cases hx; exact Nat.le_refl _
    | succ i => simp at hx
  · cases i with
    | zero => cases hx; exact Nat.zero_le _
    | succ i => simp at hx
  · rw [List.mem_singleton] at hy
    subst hy
    exact Nat.zero_le _
theorem get_app {α : Type} {xs : List α} {y x : α} {i : Nat} (h : (xs ++ [y])[i]? = some x) : xs[i]? = some x ∨ (i = xs.length ∧ x = y) := by
  by_cases hi : i < xs.length
  · rw [List.getElem?_append_left hi] at h
    exact .inl h
  · rw [List.getElem?_append_right (by omega)] at h
    have : i - xs.length = 0 := by
      cases hz : i - xs.length with
      | zero => rfl
      | succ m => rw [hz] at h; simp at h
    rw [this] at h
    simp at h
    exact .inr ⟨by omega, h.symm⟩
theorem get_app_l {α : Type} {xs : List α} {y x : α} {i : Nat} (h : xs[i]? = some x) : (xs ++ [y])[i]? = some x := by
  rw [List.getElem?_append_left (List.getElem?_eq_some_iff.mp h).1]
  exact h
/-- one choice more at the stand in hand -/
theorem BI.add (h : BI p fs k) {x : SV × RunM} (hx : fs[k]? = some x) {c : Bool × Bool} (hc : c ∈ choM p x.1) : BI p (addM p x.1 x.2 fs c) k ∧ (addM p x.1 x.2 fs c)[k]? = some x ∧
    (∃ y ∈ addM p x.1 x.2 fs c, y.1 = tickM p x.1 c.1 c.2 ∧ y.2.length ≤ x.2.length + 1) ∧ ∀ y ∈ fs, y ∈ addM p x.1 x.2 fs c := by
  have hxm : x ∈ fs := List.mem_of_getElem? hx
  unfold addM
  by_cases hm : tickM p x.1 c.1 c.2 ∈ fs.map (·.1)
  · rw [if_pos hm]
    obtain ⟨y, hy, e⟩ := List.mem_map.mp hm
    exact ⟨h, hx, ⟨y, hy, e, h.top x y hx hy⟩, fun _ z => z⟩
  · rw [if_neg hm]
    obtain ⟨r1, r2⟩ := h.run x hxm
    have hk : k < fs.length := (List.getElem?_eq_some_iff.mp hx).1
    have hl := h.len k x hx
    refine ⟨⟨?_, get_app_l h.hd, fun y hy => ?_, fun i y hy => ?_, fun i j y z hij hy hz => ?_, fun y z hy hz => ?_, fun i hi y hy c' hc' => ?_, ?_⟩, get_app_l hx, ⟨_, List.mem_append_right _ (List.mem_singleton_self _), rfl, by simp⟩, fun y hy => List.mem_append_left _ hy⟩
    · rw [List.map_append, List.nodup_append]
      refine ⟨h.nd, by simp, fun a ha b hb => ?_⟩
      simp only [List.map_cons, List.map_nil, List.mem_singleton] at hb
      subst hb
      exact fun z => hm (z ▸ ha)
    · rcases List.mem_append.mp hy with hy | hy
      · exact h.run y hy
      · rw [List.mem_singleton] at hy
        subst hy
        refine ⟨validM_snoc r1 (by rw [r2]; exact hc), ?_⟩
        rw [endM_snoc, r2]
    · rcases get_app hy with hy | ⟨rfl, rfl⟩
      · exact h.len i y hy
      · simp; omega
    · rcases get_app hz with hz | ⟨rfl, rfl⟩
      · rcases get_app hy with hy | ⟨rfl, rfl⟩
        · exact h.mono i j y z hij hy hz
        · have := (List.getElem?_eq_some_iff.mp hz).1
          omega
      · rcases get_app hy with hy | ⟨rfl, rfl⟩
        · have := h.top x y hx (List.mem_of_getElem? hy)
          simp
          omega
        · exact Nat.le_refl _
    · rw [List.getElem?_append_left hk, hx] at hy
      cases hy
      rcases List.mem_append.mp hz with hz | hz
      · exact h.top _ z hx hz
      · rw [List.mem_singleton] at hz
        subst hz
        simp
    · rcases get_app hy with hy | ⟨rfl, rfl⟩
      · obtain ⟨z, z1, z2⟩ := h.cl i hi y hy c' hc'
        exact ⟨z, List.mem_append_left _ z1, z2⟩
      · omega
    · have := h.le
      simp
      omega
theorem BI.adds {x : SV × RunM} : ∀ {cs : List (Bool × Bool)} {fs : WL}, BI p fs k → fs[k]? = some x → (∀ c ∈ cs, c ∈ choM p x.1) → BI p (cs.foldl (addM p x.1 x.2) fs) k ∧ (cs.foldl (addM p x.1 x.2) fs)[k]? = some x ∧
    (∀ c ∈ cs, ∃ y ∈ cs.foldl (addM p x.1 x.2) fs, y.1 = tickM p x.1 c.1 c.2 ∧ y.2.length ≤ x.2.length + 1) ∧ ∀ y ∈ fs, y ∈ cs.foldl (addM p x.1 x.2) fs
  | [], fs, h, hx, _ => ⟨h, hx, (fun _ z => nomatch z), fun _ z => z⟩
  | c :: cs, fs, h, hx, hc => by
    obtain ⟨h1, h2, ⟨y, y1, y2⟩, h4⟩ := h.add hx (hc c (by simp))
    obtain ⟨g1, g2, g3, g4⟩ := BI.adds (cs := cs) h1 h2 fun c' z => hc c' (by simp [z])
    refine ⟨g1, g2, fun c' hc' => ?_, fun y hy => g4 y (h4 y hy)⟩
    rcases List.mem_cons.mp hc' with rfl | hc'
    · exact ⟨y, g4 y y1, y2⟩
    · exact g3 c' hc'
theorem BI.exp (h : BI p fs k) {x : SV × RunM} (hx : fs[k]? = some x) : BI p (expM p fs x) (k + 1) ∧ ∀ y ∈ fs, y ∈ expM p fs x := by
  obtain ⟨h1, h2, h3, h4⟩ := BI.adds (cs := choM p x.1) h hx fun _ z => z
  refine ⟨⟨h1.nd, h1.hd, h1.run, h1.len, h1.mono, fun y z hy hz => ?_, fun i hi y hy c hc => ?_, (List.getElem?_eq_some_iff.mp h2).1⟩, h4⟩
  · have a := h1.top x z h2 hz
    have b := h1.mono k (k + 1) x y (Nat.le_succ _) h2 hy
    omega
  · by_cases hk : i < k
    · exact h1.cl i hk y hy c hc
    · have : i = k := by omega
      subst this
      have e : some y = some x := hy.symm.trans h2
      cases e
      exact h3 c hc
/-- the walk comes to an end -/
theorem bfs_end (hp : p.ok) : ∀ {n : Nat} {fs : WL} {k : Nat}, BI p fs k → 16700000 ≤ n + k → BI p (bfsN p n fs k) (bfsN p n fs k).length
  | 0, fs, k, h, hn => by
    have a := (h.few hp).1
    have b := h.le
    omega
  | n + 1, fs, k, h, hn => by
    unfold bfsN
    cases hx : fs[k]? with
    | none =>
      have hk : fs.length ≤ k := List.getElem?_eq_none_iff.mp hx
      have e : k = fs.length := by have := h.le; omega
      subst e
      exact h
    | some x => exact bfs_end hp (n := n) (h.exp hx).1 (by omega)
/-- more turns than that change nothing -/
theorem bfs_more (hp : p.ok) : ∀ {n m : Nat} {fs : WL} {k : Nat}, BI p fs k → 16700000 ≤ n + k → bfsN p (n + m) fs k = bfsN p n fs k
  | 0, _, fs, k, h, hn => by
    have a := (h.few hp).1
    have b := h.le
    omega
  | n + 1, m, fs, k, h, hn => by
    rw [Nat.succ_add]
    unfold bfsN
    cases hx : fs[k]? with
    | none => rfl
    | some x => exact bfs_more hp (n := n) (h.exp hx).1 (by omega)
theorem ways_bi (hp : p.ok) : BI p (waysM p) (waysM p).length := bfs_end hp BI.first (by omega)
/-- all stands that a run leads to, each with one of the shortest runs -/
theorem ways_all (hp : p.ok) : ∀ {cs : RunM} {x : SV × RunM}, x ∈ waysM p → validM p x.1 cs → ∃ y ∈ waysM p, y.1 = endM p x.1 cs ∧ y.2.length ≤ x.2.length + cs.length
  | [], x, hx, _ => ⟨x, hx, rfl, Nat.le_refl _⟩
  | c :: cs, x, hx, hv => by
    obtain ⟨i, hi⟩ := List.mem_iff_getElem?.mp hx
    obtain ⟨y, y1, y2, y3⟩ := (ways_bi hp).cl i (List.getElem?_eq_some_iff.mp hi).1 x hi c hv.1
    obtain ⟨z, z1, z2, z3⟩ := ways_all hp (cs := cs) (x := y) y1 (by rw [y2]; exact hv.2)
    refine ⟨z, z1, by rw [z2, y2]; rfl, ?_⟩
    simp only [List.length_cons]
    omega
theorem ways_first (hp : p.ok) : (firstM p, []) ∈ waysM p := List.mem_of_getElem? (ways_bi hp).hd
end
end Pf

set_option Elab.async false
set_option linter.all false
set_option maxRecDepth 100000
set_option maxHeartbeats 4000000
namespace Pf
open PySem L2 DL DL.Ev
/-! stands as keys -/
def oK : Option Int → NestedKey
  | none => .none
  | some i => .num i
def ptK (x : PT) : NestedKey := .tup [.text x.m, .num x.s, .num x.c]
def svK (v : SV) : NestedKey := .tup [.tup [ptK v.a, ptK v.b], .tup (v.ts.map oK), .num v.cl]
theorem tk_o (o : Option Int) : toKey (oD o) = some (oK o) := by cases o <;> simp [oK]
theorem tk_pt (x : PT) : toKey x.d = some (ptK x) := by
  unfold PT.d ptK
  rw [tk_t, tks_c tk_s (tks_c tk_i (tks_c tk_i tks_n))]
  rfl
theorem tk_sv (v : SV) : toKey v.d = some (svK v) := by
  unfold SV.d svK
  rw [tk_t, tks_c (ks := [.tup (v.ts.map oK), .num v.cl]) (k := .tup [ptK v.a, ptK v.b])]
  · rfl
  · rw [tk_t, tks_c (tk_pt _) (tks_c (tk_pt _) tks_n)]; rfl
  · refine tks_c ?_ (tks_c tk_i tks_n)
    rw [tk_t, tks_map tk_o]; rfl
theorem oK_inj {a b : Option Int} (h : oK a = oK b) : a = b := by
  cases a <;> cases b <;> simp [oK] at h ⊢
  exact h
theorem ptK_inj {x y : PT} (h : ptK x = ptK y) : x = y := by
  obtain ⟨m, s, c⟩ := x
  obtain ⟨m', s', c'⟩ := y
  simp [ptK] at h
  simp [h]
theorem mapK_inj : ∀ {a b : List (Option Int)}, a.map oK = b.map oK → a = b
  | [], [], _ => rfl
  | x :: xs, y :: ys, h => by
    simp only [List.map_cons, List.cons.injEq] at h
    rw [oK_inj h.1, mapK_inj h.2]
  | [], _ :: _, h => by simp at h
  | _ :: _, [], h => by simp at h
theorem svK_inj {v w : SV} (h : svK v = svK w) : v = w := by
  obtain ⟨a, b, ts, cl⟩ := v
  obtain ⟨a', b', ts', cl'⟩ := w
  simp only [svK, NestedKey.tup.injEq, List.cons.injEq, NestedKey.num.injEq, and_true] at h
  obtain ⟨⟨h1, h2⟩, h3, h4⟩ := h
  rw [ptK_inj h1, ptK_inj h2, mapK_inj h3, h4]
theorem depth_o : ∀ ts : List (Option Int), NestedKey.depthAll (ts.map oK) ≤ 1
  | [] => by simp [NestedKey.depthAll]
  | o :: ts => by
    have := depth_o ts
    cases o <;> simp [NestedKey.depthAll, NestedKey.depth, oK, this]
theorem svK_depth (v : SV) : (svK v).depth ≤ 8 := by
  have := depth_o v.ts
  simp [svK, ptK, NestedKey.depth, NestedKey.depthAll]
  omega
theorem ok_sv (v : SV) : okKey v.d = true := by
  unfold okKey
  rw [tk_sv]
  exact decide_eq_true (svK_depth v)
theorem tup_sv (v : SV) : isTupD v.d = true := rfl
def runD (r : RunM) : Dt := .tuple (r.map prD)
/-- a dict from stands -/
def svD {α : Type} (f : α → Dt) (fs : List (SV × α)) : List (Dt × Dt) := fs.map fun x => (x.1.d, f x.2)
section
variable {α : Type} {f : α → Dt}
theorem keysN_sv : ∀ {fs : List (SV × α)}, keysN (svD f fs) = true
  | [] => rfl
  | x :: fs => by
    have := keysN_sv (fs := fs)
    unfold keysN svD at *
    rw [List.map_cons, List.all_cons, this]
    rfl
theorem sv_len {fs : List (SV × α)} : (svD f fs).length = fs.length := by simp [svD]
theorem getN_sv {v : SV} : ∀ {fs : List (SV × α)}, getNd (svD f fs) v.d = (fs.find? fun x => decide (x.1 = v)).map fun x => f x.2
  | [] => by unfold getNd; rw [tk_sv]; rfl
  | x :: fs => by
    have ih := getN_sv (v := v) (fs := fs)
    unfold getNd at *
    rw [tk_sv] at *
    simp only [Option.bind_some] at *
    unfold getN svD at *
    rw [List.map_cons, List.find?_cons, List.find?_cons, tk_sv]
    by_cases h : x.1 = v
    · rw [h]; simp
    · have h' : ¬ svK x.1 = svK v := fun z => h (svK_inj z)
      simp only [Option.some.injEq, h, h', decide_false]
      exact ih
theorem getN_some {v : SV} {fs : List (SV × α)} : (getNd (svD f fs) v.d).isSome = decide (v ∈ fs.map (·.1)) := by
  rw [getN_sv, Option.isSome_map, Bool.eq_iff_iff, List.find?_isSome]
  simp
theorem getN_at {x : SV × α} : ∀ {fs : List (SV × α)}, (fs.map (·.1)).Nodup → x ∈ fs → getNd (svD f fs) x.1.d = some (f x.2) := fun {fs} nd hx => by
  rw [getN_sv]
  have : (fs.find? fun y => decide (y.1 = x.1)) = some x := by
    induction fs with
    | nil => cases hx
    | cons y fs ih =>
      rw [List.map_cons, List.nodup_cons] at nd
      rw [List.find?_cons]
      by_cases h : y.1 = x.1
      · rcases List.mem_cons.mp hx with rfl | hx
        · simp
        · exact absurd (h ▸ List.mem_map.mpr ⟨x, hx, rfl⟩) nd.1
      · rcases List.mem_cons.mp hx with rfl | hx
        · exact absurd rfl h
        · simp only [h, decide_false]
          exact ih nd.2 hx
  rw [this]
  rfl
theorem put_new {v : SV} {a : α} {fs : List (SV × α)} (h : v ∉ fs.map (·.1)) : putNd (svD f fs) v.d (f a) = svD f (fs ++ [(v, a)]) := by
  unfold putNd
  rw [getN_some, if_neg (by simpa using h)]
  simp [svD]
end
/-! the walk -/
def innerB (Gt : FF) : FS := (sqS (asS (binD ixG (vD (cl0 Gt (aC (xV 0) (aC (xV 5) (aC (xV 6) aN))))) (vD (kD (.int 0)))) (gN 7))
    (ifS (vT (binD ninG (xV 7) (xV 2))) (sqS (stN 2 (binD addG (vD (binD ixG (xV 2) (xV 5))) (vD (tupD (aC (xV 6) aN)))) (xD 7))
    (exS (vD (appD 3 (xD 7))))) skS))
def outerB (Gc Gt : FF) : FS := (sqS (asS (binD ixG (xV 3) (xV 4)) (gN 5))
    (sqS (asS (binD addG (xV 4) (vD (kD (.int 1)))) (gN 4))
    (frS (seqI (cl0 Gc (aC (xV 0) (aC (xV 5) aN)))) (gN 6) (innerB Gt))))
noncomputable def walkF (Gb Gc Gt : FF) : FS := (sqS (asS (cl0 Gb (aC (xV 0) aN)) (gN 1))
    (sqS (parS [2, 3, 4] (mF (dispN (xD 1) (tupD aN)) (mF (lstD (aC (xV 1) aN)) (mD (kD (.int 0)) mN))))
    (sqS (whS (vT (binD ltG (xV 4) (vD (callD lenG (aC (xV 3) aN))))) (outerB Gc Gt))
    (rtO 2))))
/-- what the walk leans on -/
structure StepF (p : PV) (Gc Gt : FF) : Prop where
  c : ∀ v, Inv p v → Gc [p.d, v.d] = some (.list ((choM p v).map prD), [])
  t : ∀ v c, Inv p v → c ∈ choM p v → Gt [p.d, v.d, prD c] = some (.tuple [(tickM p v c.1 c.2).d, .tuple (tickW p v c.1 c.2).gone, .tuple (tickW p v c.1 c.2).came], [])
def wEn (p : PV) (fs : WL) (k : Nat) (c5 c6 c7 : Cell) : En := [.dat p.d, .dat (firstM p).d, .own (.dict (svD runD fs)), .own (.list (fs.map (·.1.d))), .dat (.int k), c5, c6, c7]
theorem inner_e {p : PV} {Gc Gt : FF} (hp : p.ok) (S : StepF p Gc Gt) {fs : WL} {k : Nat} (h : BI p fs k) {x : SV × RunM} (hx : x ∈ fs) {c : Bool × Bool} (hc : c ∈ choM p x.1) {kk : Nat} {c7 : Cell} :
    ∃ c7', innerB Gt (wEn p fs kk (.dat x.1.d) (.dat (prD c)) c7) = some (.nx (wEn p (addM p x.1 x.2 fs c) kk (.dat x.1.d) (.dat (prD c)) c7')) := by
  have size : sizeLine = 16777216 := rfl
  have hi := h.inv hp hx
  have ht := S.t x.1 c hi hc
  have few := (h.few hp).1
  have hg := getN_at (f := runD) h.nd hx
  have hm := getN_some (f := runD) (v := tickM p x.1 c.1 c.2) (fs := fs)
  have hl : x.2.length ≤ fs.length := by
    obtain ⟨i, hi⟩ := List.mem_iff_getElem?.mp hx
    have := h.len i x hi
    have := (List.getElem?_eq_some_iff.mp hi).1
    omega
  have z1 : (x.2.map prD).length + 1 ≤ 16777216 := by simp; omega
  have z2 : fs.length < 16777216 := by omega
  have z3 : x.2.length ≤ 16777215 := by omega
  have ok := ok_sv (tickM p x.1 c.1 c.2)
  have okx := ok_sv x.1
  have tt := tup_sv (tickM p x.1 c.1 c.2)
  have ixx : ixG (.dict (svD runD fs)) x.1.d = some (runD x.2) := by rw [ix_dn (tup_sv x.1), if_pos ⟨keysN_sv, okx⟩]; exact hg
  unfold wEn addM
  have kn := keysN_sv (f := runD) (fs := fs)
  have ln := sv_len (f := runD) (fs := fs)
  have pn := put_new (f := runD) (v := tickM p x.1 c.1 c.2) (a := x.2 ++ [c]) (fs := fs)
  have mm : (fs ++ [(tickM p x.1 c.1 c.2, x.2 ++ [c])]).map (fun y => y.1.d) = fs.map (fun y => y.1.d) ++ [(tickM p x.1 c.1 c.2).d] := by simp
  have rr : runD (x.2 ++ [c]) = .tuple (x.2.map prD ++ [prD c]) := by simp [runD]
  rw [rr] at pn
  have rx : runD x.2 = .tuple (x.2.map prD) := rfl
  rw [rx] at ixx
  by_cases hmem : tickM p x.1 c.1 c.2 ∈ fs.map (·.1)
  · rw [if_pos hmem]
    rw [decide_eq_true hmem] at hm
    generalize (tickM p x.1 c.1 c.2).d = t at *
    generalize x.1.d = v at *
    generalize prD c = pc at *
    generalize svD runD fs = W at *
    refine ⟨.dat t, ?_⟩
    simp [innerB, ht, isDr, kn, ok, tt, hm]
  · rw [if_neg hmem]
    rw [decide_eq_false hmem] at hm
    have pn := pn hmem
    rw [mm, ← pn]
    generalize (tickM p x.1 c.1 c.2).d = t at *
    generalize x.1.d = v at *
    generalize prD c = pc at *
    generalize svD runD fs = W at *
    refine ⟨.dat t, ?_⟩
    simp [innerB, ht, isDr, kn, ok, tt, hm, ixx, size, ln, z1, z2, z3]
theorem inners_e {p : PV} {Gc Gt : FF} (hp : p.ok) (S : StepF p Gc Gt) {k kk : Nat} {x : SV × RunM} : ∀ {cs : List (Bool × Bool)} {fs : WL} {c6 c7 : Cell}, BI p fs k → fs[k]? = some x → (∀ c ∈ cs, c ∈ choM p x.1) →
    ∃ c6' c7', forF (gN 6) (innerB Gt) (cs.map prD) (wEn p fs kk (.dat x.1.d) c6 c7) = some (.nx (wEn p (cs.foldl (addM p x.1 x.2) fs) kk (.dat x.1.d) c6' c7'))
  | [], fs, c6, c7, _, _, _ => ⟨c6, c7, rfl⟩
  | c :: cs, fs, c6, c7, h, hx, hc => by
    obtain ⟨c7', h1⟩ := inner_e (kk := kk) (c7 := c7) hp S h (List.mem_of_getElem? hx) (hc c (by simp))
    obtain ⟨g1, g2, _, _⟩ := h.add hx (hc c (by simp))
    obtain ⟨c6'', c7'', h2⟩ := inners_e hp S (cs := cs) (c6 := .dat (prD c)) (c7 := c7') g1 g2 fun c' z => hc c' (by simp [z])
    refine ⟨c6'', c7'', ?_⟩
    rw [List.map_cons, forF_c, gN_e, bnd_s]
    have e : (wEn p fs kk (.dat x.1.d) c6 c7).set 6 (.dat (prD c)) = wEn p fs kk (.dat x.1.d) (.dat (prD c)) c7 := rfl
    rw [e, h1]
    exact h2
theorem outer_e {p : PV} {Gc Gt : FF} (hp : p.ok) (S : StepF p Gc Gt) {k : Nat} {x : SV × RunM} {fs : WL} {c5 c6 c7 : Cell} (h : BI p fs k) (hx : fs[k]? = some x) :
    ∃ c5' c6' c7', outerB Gc Gt (wEn p fs k c5 c6 c7) = some (.nx (wEn p (expM p fs x) (k + 1) c5' c6' c7')) := by
  have hi := h.inv hp (List.mem_of_getElem? hx)
  obtain ⟨c6', c7', h1⟩ := inners_e (kk := k + 1) (c6 := c6) (c7 := c7) (cs := choM p x.1) hp S h hx fun _ z => z
  have hc := S.c x.1 hi
  refine ⟨.dat x.1.d, c6', c7', ?_⟩
  have hg : (fs.map fun y => y.1.d)[k]? = some x.1.d := by rw [List.getElem?_map, hx]; rfl
  unfold expM
  rw [← h1]
  unfold outerB wEn
  generalize innerB Gt = B
  generalize svD runD fs = W at *
  generalize (fs.map fun y => y.1.d) = L at *
  generalize x.1.d = v at *
  simp [hg, hc, isDr]
theorem while_e {p : PV} {Gc Gt : FF} (hp : p.ok) (S : StepF p Gc Gt) : ∀ {n : Nat} {fs : WL} {k : Nat} {c5 c6 c7 : Cell}, BI p fs k → 16700000 ≤ n + k →
    ∃ m c5' c6' c7' kk, whN (vT (binD ltG (xV 4) (vD (callD lenG (aC (xV 3) aN))))) (outerB Gc Gt) m (wEn p fs k c5 c6 c7) = some (.nx (wEn p (bfsN p n fs k) kk c5' c6' c7'))
  | 0, fs, k, _, _, _, h, hn => by
    have a := (h.few hp).1
    have b := h.le
    omega
  | n + 1, fs, k, c5, c6, c7, h, hn => by
    have tst : ∀ b, decide (k < fs.length) = b → vT (binD ltG (xV 4) (vD (callD lenG (aC (xV 3) aN)))) (wEn p fs k c5 c6 c7) = some (b, wEn p fs k c5 c6 c7) := fun b hb => by
      unfold wEn
      have : decide ((k : Int) < ((fs.map fun y => y.1.d).length : Int)) = b := by rw [← hb]; simp
      generalize (fs.map fun y => y.1.d) = L at *
      simp
      simpa using this
    unfold bfsN
    cases hx : fs[k]? with
    | none =>
      have hk : fs.length ≤ k := List.getElem?_eq_none_iff.mp hx
      exact ⟨1, c5, c6, c7, k, wh_done (tst false (decide_eq_false (by omega)))⟩
    | some x =>
      have hk := (List.getElem?_eq_some_iff.mp hx).1
      obtain ⟨d5, d6, d7, h1⟩ := outer_e (c5 := c5) (c6 := c6) (c7 := c7) hp S h hx
      obtain ⟨m, c5', c6', c7', kk, h2⟩ := while_e hp S (n := n) (c5 := d5) (c6 := d6) (c7 := d7) (h.exp hx).1 (by omega)
      exact ⟨m + 1, c5', c6', c7', kk, wh_turn (tst true (decide_eq_true hk)) h1 h2⟩
theorem walk_e {p : PV} {Gb Gc Gt : FF} (hp : p.ok) (S : StepF p Gc Gt) (hb : Gb [p.d] = some ((firstM p).d, [])) : runP 0 1 8 (walkF Gb Gc Gt) [p.d] = some (.dict (svD runD (waysM p)), []) := by
  obtain ⟨m, c5, c6, c7, kk, hw⟩ := while_e (n := 16700000) (k := 0) (c5 := .un) (c6 := .un) (c7 := .un) hp S BI.first (by omega)
  have hw := whS_of hw
  have ok := ok_sv (firstM p)
  have tt := tup_sv (firstM p)
  have e0 : wEn p [(firstM p, [])] 0 .un .un .un = [.dat p.d, .dat (firstM p).d, .own (.dict [((firstM p).d, .tuple [])]), .own (.list [(firstM p).d]), .dat (.int 0), .un, .un, .un] := rfl
  rw [e0] at hw
  have ew : bfsN p 16700000 [(firstM p, [])] 0 = waysM p := rfl
  rw [ew] at hw
  unfold wEn at hw
  generalize svD runD (waysM p) = W at *
  generalize ((waysM p).map fun y => y.1.d) = L at *
  generalize (firstM p).d = f at *
  unfold walkF
  generalize (whS (vT (binD ltG (xV 4) (vD (callD lenG (aC (xV 3) aN))))) (outerB Gc Gt)) = Wh at *
  simp [iniE, ownsE, hb, isDr, ok, tt, hw, rtO]
end Pf

set_option Elab.async false
set_option linter.all false
set_option maxRecDepth 100000
set_option maxHeartbeats 4000000
namespace Pf
open PySem L2 DL DL.Ev
theorem prog_step {p : PV} (hp : p.ok) : StepF p F_choices_of F_passed := ⟨fun v h => choices_of_e h.ride, fun v c h _ => passed_e hp h.ok⟩
theorem law_step {p : PV} (hp : p.ok) : StepF p F_law_choices F_law_tick := ⟨fun v _ => cho_e, fun v c h _ => tick_e hp h.ok⟩
theorem ways_by_e {p : PV} (hp : p.ok) : F_ways_by [p.d] = some (.dict (svD runD (waysM p)), []) := walk_e hp (prog_step hp) (begin_e hp)
/-! leavings and comings -/
abbrev EvM := Int × Int × Option Int
def evD (t : EvM) : Dt := .tuple [.int t.1, .int t.2.1, oD t.2.2]
def gapA (p : PV) (v : SV) : Option Int := gapM v.ts v.a.s
def gapB (p : PV) (v : SV) (c : Bool × Bool) : Option Int := gapM (stepM p v.cl 0 v.a c.1 ⟨v.ts, [], [], []⟩).now v.b.s
def goneM (p : PV) (v : SV) (c : Bool × Bool) : List EvM := (if outM v.a (tickM p v c.1 c.2).a then [(0, v.a.s, gapA p v)] else []) ++ (if outM v.b (tickM p v c.1 c.2).b then [(1, v.b.s, gapB p v c)] else [])
def cameM (p : PV) (v : SV) (c : Bool × Bool) : List EvM := (if v.a.m = Str.ofString "rides" ∧ c.1 = true then [(0, v.a.s, gapA p v)] else []) ++ (if v.b.m = Str.ofString "rides" ∧ c.2 = true then [(1, v.b.s, gapB p v c)] else [])
theorem gone_eq {p : PV} {v : SV} {c : Bool × Bool} : (tickW p v c.1 c.2).gone = (goneM p v c).map evD := by
  have h0 : (stepM p v.cl 0 v.a c.1 ⟨v.ts, [], [], []⟩).gone = ((if outM v.a (tickM p v c.1 c.2).a then [(0, v.a.s, gapA p v)] else []) : List EvM).map evD := by
    show (if outM v.a (tickM p v c.1 c.2).a then [] ++ [_] else []) = _
    split <;> rfl
  show (if outM v.b (tickM p v c.1 c.2).b then (stepM p v.cl 0 v.a c.1 ⟨v.ts, [], [], []⟩).gone ++ [_] else (stepM p v.cl 0 v.a c.1 ⟨v.ts, [], [], []⟩).gone) = _
  rw [h0]
  unfold goneM
  rw [List.map_append]
  split
  · rfl
  · simp
theorem came_eq {p : PV} {v : SV} {c : Bool × Bool} : (tickW p v c.1 c.2).came = (cameM p v c).map evD := by
  have h0 : (stepM p v.cl 0 v.a c.1 ⟨v.ts, [], [], []⟩).came = ((if v.a.m = Str.ofString "rides" ∧ c.1 = true then [(0, v.a.s, gapA p v)] else []) : List EvM).map evD := by
    show (if v.a.m = Str.ofString "rides" ∧ c.1 = true then [] ++ [_] else []) = _
    split <;> rfl
  show (if v.b.m = Str.ofString "rides" ∧ c.2 = true then (stepM p v.cl 0 v.a c.1 ⟨v.ts, [], [], []⟩).came ++ [_] else (stepM p v.cl 0 v.a c.1 ⟨v.ts, [], [], []⟩).came) = _
  rw [h0]
  unfold cameM
  rw [List.map_append]
  split
  · rfl
  · simp
theorem at_bd {p : PV} (hp : p.ok) {v : SV} (h : Inv p v) {s : Int} (h0 : 0 ≤ s) (h1 : s < p.n) : ∀ x, atS v s = some x → 0 ≤ x ∧ x ≤ 37 := fun x hx => by
  have a := h.x0 s h0 h1 x hx
  have b := h.bd s h0 h1 x hx
  have d := (d0_bd hp h).1
  have t := tot_le hp
  have r : 0 ≤ restM p v.a.s s := by
    have w1 := Wq_pos hp (nextM p v.a.s)
    have w2 := Wq_pos hp (nextM p (nextM p v.a.s))
    unfold restM
    split
    · omega
    · split <;> omega
  omega
theorem gapA_bd {p : PV} (hp : p.ok) {v : SV} (h : Inv p v) : ∀ g, gapA p v = some g → 0 ≤ g ∧ g ≤ 38 := fun g hg => by
  unfold gapA at hg
  rw [gap_at, Option.map_eq_some_iff] at hg
  obtain ⟨x, hx, rfl⟩ := hg
  have := at_bd hp h h.a.1 h.a.2.1 x hx
  omega
theorem gapB_is {p : PV} {v : SV} {c : Bool × Bool} (h : v.ok p) : gapB p v c = if outM v.a (tickM p v c.1 c.2).a ∧ v.a.s = v.b.s then some 0 else (atS v v.b.s).map (· + 1) := by
  have a0 := h.a0
  have b0 := h.b0
  have b1 := h.b1
  have tl := h.tl
  unfold gapB
  have e : (stepM p v.cl 0 v.a c.1 ⟨v.ts, [], [], []⟩).now = if outM v.a (tickM p v c.1 c.2).a then v.ts.set v.a.s.toNat (some (-1)) else v.ts := rfl
  rw [e]
  unfold gapM atS
  by_cases ho : outM v.a (tickM p v c.1 c.2).a
  · rw [if_pos ho]
    by_cases hs : v.a.s = v.b.s
    · rw [if_pos ⟨ho, hs⟩, hs, List.getElem?_set]
      have : v.b.s.toNat < v.ts.length := by omega
      simp [this]
    · rw [if_neg (fun z => hs z.2), List.getElem?_set_ne (by omega)]
  · rw [if_neg ho, if_neg (fun z => ho z.1)]
theorem gapB_bd {p : PV} (hp : p.ok) {v : SV} (h : Inv p v) {c : Bool × Bool} : ∀ g, gapB p v c = some g → 0 ≤ g ∧ g ≤ 38 := fun g hg => by
  rw [gapB_is h.ok] at hg
  split at hg
  · cases hg; omega
  · rw [Option.map_eq_some_iff] at hg
    obtain ⟨x, hx, rfl⟩ := hg
    have := at_bd hp h h.b.1 h.b.2.1 x hx
    omega
def EvOk (p : PV) (t : EvM) : Prop := 0 ≤ t.2.1 ∧ t.2.1 < p.n ∧ ∀ g, t.2.2 = some g → 0 ≤ g ∧ g ≤ 38
theorem gone_ok {p : PV} (hp : p.ok) {v : SV} (h : Inv p v) {c : Bool × Bool} : ∀ t ∈ goneM p v c, EvOk p t := fun t ht => by
  unfold goneM at ht
  rcases List.mem_append.mp ht with ht | ht
  · split at ht
    · rw [List.mem_singleton] at ht; subst ht; exact ⟨h.a.1, h.a.2.1, gapA_bd hp h⟩
    · cases ht
  · split at ht
    · rw [List.mem_singleton] at ht; subst ht; exact ⟨h.b.1, h.b.2.1, gapB_bd hp h⟩
    · cases ht
theorem came_ok {p : PV} (hp : p.ok) {v : SV} (h : Inv p v) {c : Bool × Bool} : ∀ t ∈ cameM p v c, EvOk p t := fun t ht => by
  unfold cameM at ht
  rcases List.mem_append.mp ht with ht | ht
  · split at ht
    · rw [List.mem_singleton] at ht; subst ht; exact ⟨h.a.1, h.a.2.1, gapA_bd hp h⟩
    · cases ht
  · split at ht
    · rw [List.mem_singleton] at ht; subst ht; exact ⟨h.b.1, h.b.2.1, gapB_bd hp h⟩
    · cases ht
theorem gone_len {p : PV} {v : SV} {c : Bool × Bool} : (goneM p v c).length ≤ 2 := by
  unfold goneM
  split <;> split <;> simp
theorem came_len {p : PV} {v : SV} {c : Bool × Bool} : (cameM p v c).length ≤ 2 := by
  unfold cameM
  split <;> split <;> simp
/-! all ticks at all stands -/
def edgD (p : PV) (v : SV) (c : Bool × Bool) : Dt := .tuple [prD c, (tickM p v c.1 c.2).d, .tuple ((goneM p v c).map evD), .tuple ((cameM p v c).map evD)]
def edgL (p : PV) (x : SV × (Bool × Bool)) : Dt := .tuple [x.1.d, prD x.2, (tickM p x.1 x.2.1 x.2.2).d, .tuple ((goneM p x.1 x.2).map evD), .tuple ((cameM p x.1 x.2).map evD)]
def rowM (p : PV) (v : SV) : Dt := .list ((choM p v).map (edgD p v))
def keysM (p : PV) : List SV := (waysM p).map (·.1)
def edgesM (p : PV) : List (SV × (Bool × Bool)) := (keysM p).flatMap fun v => (choM p v).map fun c => (v, c)
theorem keys_inv {p : PV} (hp : p.ok) {v : SV} (h : v ∈ keysM p) : Inv p v := by
  obtain ⟨x, hx, rfl⟩ := List.mem_map.mp h
  exact (ways_bi hp).inv hp hx
theorem keys_nd {p : PV} (hp : p.ok) : (keysM p).Nodup := (ways_bi hp).nd
theorem edges_mem {p : PV} {x : SV × (Bool × Bool)} : x ∈ edgesM p ↔ x.1 ∈ keysM p ∧ x.2 ∈ choM p x.1 := by
  unfold edgesM
  rw [List.mem_flatMap]
  constructor
  · rintro ⟨v, hv, h⟩
    obtain ⟨c, hc, rfl⟩ := List.mem_map.mp h
    exact ⟨hv, hc⟩
  · rintro ⟨h1, h2⟩
    exact ⟨x.1, h1, List.mem_map.mpr ⟨x.2, h2, rfl⟩⟩
/-- few enough ticks for a list -/
structure Small (p : PV) : Prop where
  ok : p.ok
  sm : p.n = 2 ∨ p.r0 = p.r1
theorem opts_one {p : PV} (h : p.r0 = p.r1) {x : PT} (hx : x.m = Str.ofString "rides" → x.c + 1 ≤ p.r1) : (optsM p x).length ≤ 1 := by
  unfold optsM
  by_cases hm : x.m = Str.ofString "rides"
  · have := hx hm
    rw [if_pos hm]
    by_cases h1 : x.c + 1 = p.r1
    · rw [if_neg (by omega)]
      split <;> simp
    · rw [if_neg (show ¬ p.r0 ≤ x.c + 1 by omega)]
      split <;> simp
  · rw [if_neg hm]; simp
theorem cho_one {p : PV} (h : p.r0 = p.r1) {v : SV} (hv : Inv p v) : (choM p v).length ≤ 1 := by
  unfold choM
  have a := opts_one h hv.ride.a
  have b := opts_one h hv.ride.b
  refine Nat.le_trans (flat_len (m := 1) fun x _ => by simpa using b) ?_
  omega
theorem edges_few {p : PV} (h : Small p) : (edgesM p).length < 16700000 := by
  have few := (ways_bi h.ok).few h.ok
  have kl : (keysM p).length = (waysM p).length := by simp [keysM]
  unfold edgesM
  rcases h.sm with hn | hr
  · refine Nat.lt_of_le_of_lt (flat_len (m := 4) fun v _ => by simpa using cho_le) ?_
    have := few.2 hn
    omega
  · refine Nat.lt_of_le_of_lt (flat_len (m := 1) fun v hv => by simpa using cho_one hr (keys_inv h.ok hv)) ?_
    have := few.1
    omega
end Pf

set_option Elab.async false
set_option linter.all false
set_option maxRecDepth 100000
set_option maxHeartbeats 4000000
namespace Pf
open PySem L2 DL DL.Ev
/-! the edges, by the program -/
def eyD (p : PV) (L : List SV) : List (Dt × Dt) := svD (rowM p) (L.map fun v => (v, v))
def edBody : FS := (stN 1 (lcD (seqI (cl0 F_choices_of (aC (xV 0) (aC (xV 2) aN)))) (gN 3) yesT (binD addG (vD (tupD (aC (xV 3) aN))) (vD (cl0 F_passed (aC (xV 0) (aC (xV 2) (aC (xV 3) aN)))))) [3]) (xD 2))
theorem ed_step {p : PV} (hp : p.ok) {L : List SV} {v : SV} {c2 : Cell} (hv : Inv p v) (hn : v ∉ L) (hl : L.length < 16777216) : edBody [.dat p.d, .own (.dict (eyD p L)), .dat v.d, .un] = some (.nx [.dat p.d, .own (.dict (eyD p (L ++ [v]))), .dat v.d, .un]) := by
  have size : sizeLine = 16777216 := rfl
  have hc := (prog_step hp).c v hv
  have lc : lcF (gN 3) yesT (binD addG (vD (tupD (aC (xV 3) aN))) (vD (cl0 F_passed (aC (xV 0) (aC (xV 2) (aC (xV 3) aN)))))) [3] ((choM p v).map prD) [.dat p.d, .own (.dict (eyD p L)), .dat v.d, .un] = some ((choM p v).map (edgD p v), [.dat p.d, .own (.dict (eyD p L)), .dat v.d, .un]) := by
    rw [lcF_on prD (fun _ => true) (edgD p v)]
    · rw [List.filter_eq_self.mpr (by simp)]
    · intro c hc
      have ht := (prog_step hp).t v c hv hc
      rw [gone_eq, came_eq] at ht
      refine ⟨[.dat p.d, .own (.dict (eyD p L)), .dat v.d, .dat (prD c)], rfl, rfl, fun _ => ?_, by simp [noOwn], by simp [wipeE]⟩
      unfold edgD
      generalize (tickM p v c.1 c.2).d = t at *
      generalize v.d = V at *
      generalize prD c = pc at *
      simp [ht, isDr, size]
  have pn : putNd (eyD p L) v.d (rowM p v) = eyD p (L ++ [v]) := by
    have := put_new (f := rowM p) (v := v) (a := v) (fs := L.map fun v => (v, v)) (by simpa using hn)
    unfold eyD
    rw [this]
    simp
  have kn : keysN (eyD p L) = true := keysN_sv
  have ln : (eyD p L).length < 16777216 := by unfold eyD; rw [sv_len, List.length_map]; exact hl
  have ok := ok_sv v
  have tt := tup_sv v
  rw [← pn]
  unfold rowM at pn ⊢
  generalize eyD p L = W at *
  unfold edBody
  generalize (binD addG (vD (tupD (aC (xV 3) aN))) (vD (cl0 F_passed (aC (xV 0) (aC (xV 2) (aC (xV 3) aN)))))) = fe at *
  generalize v.d = V at *
  simp [hc, isDr, lc, noOwn, wipeE, backE, kn, ok, tt, size, ln]
theorem edges_by_e {p : PV} (hp : p.ok) : F_edges_by [p.d] = some (.dict (eyD p (keysM p)), []) := by
  have hw := ways_by_e hp
  have kn := keysN_sv (f := runD) (fs := waysM p)
  have few := ((ways_bi hp).few hp).1
  have kl : (keysM p).length = (waysM p).length := by simp [keysM]
  have mk : (svD runD (waysM p)).map (fun x => x.1) = (keysM p).map SV.d := by simp [svD, keysM]
  obtain ⟨e', h1, L, c2, he, hL⟩ := for_rel (g := gN 2) (b := edBody) SV.d (fun xs e => ∃ L c2, e = [.dat p.d, .own (.dict (eyD p L)), c2, .un] ∧ L ++ xs = keysM p) (xs := keysM p) (e := [.dat p.d, .own (.dict []), .un, .un]) ⟨[], .un, rfl, rfl⟩ (by
    rintro v xs e ⟨L, c2, rfl, hL⟩
    have hm : v ∈ keysM p := by rw [← hL]; simp
    have nd := keys_nd hp
    rw [← hL, List.nodup_append] at nd
    have hn : v ∉ L := fun z => nd.2.2 v z v (by simp) rfl
    have hl : L.length < 16777216 := by
      have := congrArg List.length hL
      simp at this
      omega
    exact ⟨_, _, rfl, ed_step (c2 := c2) hp (keys_inv hp hm) hn hl, L ++ [v], .dat v.d, rfl, by simpa using hL⟩)
  rw [List.append_nil] at hL
  subst hL
  subst he
  unfold edBody at h1
  generalize eyD p (keysM p) = W at *
  simp [F_edges_by, iniE, ownsE, g_edges_by, hw, isDr, kn, mk, h1, rtO]
/-! .. by the law -/
def elBody : FS := (exS (vD (appD 1 (binD addG (vD (tupD (aC (xV 2) (aC (xV 3) aN)))) (vD (cl0 F_law_tick (aC (xV 0) (aC (xV 2) (aC (xV 3) aN)))))))))
theorem edges_take {p : PV} {L xs : List SV} (h : L ++ xs = keysM p) : edgesM p = (L.flatMap fun v => (choM p v).map fun c => (v, c)) ++ xs.flatMap fun v => (choM p v).map fun c => (v, c) := by
  unfold edgesM
  rw [← h, List.flatMap_append]
end Pf

set_option Elab.async false
set_option linter.all false
set_option maxRecDepth 100000
set_option maxHeartbeats 4000000
namespace Pf
open PySem L2 DL DL.Ev
/-! the gaps -/
def gapsT (p : PV) (v : SV) (c : Bool × Bool) : List Int := (goneM p v c).filterMap (·.2.2)
def gapsAll (p : PV) : List Int := (edgesM p).flatMap fun x => gapsT p x.1 x.2
theorem gapsT_bd {p : PV} (hp : p.ok) {v : SV} (h : Inv p v) {c : Bool × Bool} {g : Int} (hg : g ∈ gapsT p v c) : 0 ≤ g ∧ g ≤ 38 := by
  unfold gapsT at hg
  obtain ⟨t, ht, e⟩ := List.mem_filterMap.mp hg
  exact (gone_ok hp h t ht).2.2 g e
theorem gapsT_len {p : PV} {v : SV} {c : Bool × Bool} : (gapsT p v c).length ≤ 2 := Nat.le_trans (List.length_filterMap_le _ _) gone_len
theorem gapsAll_mem {p : PV} {g : Int} : g ∈ gapsAll p ↔ ∃ v ∈ keysM p, ∃ c ∈ choM p v, g ∈ gapsT p v c := by
  unfold gapsAll
  rw [List.mem_flatMap]
  constructor
  · rintro ⟨x, hx, h⟩
    obtain ⟨h1, h2⟩ := edges_mem.mp hx
    exact ⟨x.1, h1, x.2, h2, h⟩
  · rintro ⟨v, hv, c, hc, h⟩
    exact ⟨(v, c), edges_mem.mpr ⟨hv, hc⟩, h⟩
theorem nin_ints {L : List Int} {s : Int} : ninG (.int s) (.list (L.map .int)) = some (.bool (!decide (s ∈ L))) := by
  have h := in_ints (L := L) (s := s)
  show ((inL (.int s) (L.map .int)).bind fun b => some (PyData.bool (!b))) = _
  have h' : ((inL (.int s) (L.map .int)).bind fun b => some (PyData.bool b)) = some (.bool (decide (s ∈ L))) := h
  cases hz : inL (.int s) (L.map .int) with
  | none => rw [hz] at h'; cases h'
  | some b =>
    rw [hz] at h'
    simp only [Option.bind_some, Option.some.injEq, PyData.bool.injEq] at h' ⊢
    rw [h']
/-- how many numbers there are -/
def manyG (found : List Int) : Nat := ((upI 39).filter fun g => decide (g ∈ found)).length
theorem upI_nd (n : Nat) : (upI n).Nodup := by
  unfold upI
  exact List.Pairwise.map _ (fun a b h => by omega) (List.nodup_range)
theorem many_le {found : List Int} : manyG found ≤ 39 := Nat.le_trans (List.length_filter_le _ _) (by rw [up_len]; exact Nat.le_refl _)
theorem many_more {found new : List Int} {g : Int} (h0 : 0 ≤ g ∧ g ≤ 38) (hn : g ∉ found) (hg : g ∈ new) : manyG found + 1 ≤ manyG (found ++ new) := by
  unfold manyG
  have nd : (g :: (upI 39).filter fun g => decide (g ∈ found)).Nodup := List.nodup_cons.mpr ⟨fun z => hn (by simpa using (List.mem_filter.mp z).2), (upI_nd 39).filter _⟩
  have := nodup_sub (ys := (upI 39).filter fun g => decide (g ∈ found ++ new)) nd fun x hx => by
    rcases List.mem_cons.mp hx with rfl | hx
    · exact List.mem_filter.mpr ⟨mem_up h0.1 (by omega), by simp [hg]⟩
    · obtain ⟨a, b⟩ := List.mem_filter.mp hx
      simp at b
      exact List.mem_filter.mpr ⟨a, by simp [b]⟩
  simpa using this
def newG (found : List Int) (p : PV) (v : SV) (c : Bool × Bool) : List Int := (gapsT p v c).filter fun g => !decide (g ∈ found)
theorem newG_mem {found : List Int} {p : PV} {v : SV} {c : Bool × Bool} {g : Int} : g ∈ found ++ newG found p v c ↔ g ∈ found ∨ g ∈ gapsT p v c := by
  unfold newG
  simp only [List.mem_append, List.mem_filter, Bool.not_eq_true', decide_eq_false_iff_not]
  by_cases h : g ∈ found <;> simp [h]
theorem newG_few {found : List Int} {p : PV} (hp : p.ok) {v : SV} (h : Inv p v) {c : Bool × Bool} (hf : found.length ≤ 2 * manyG found) : (found ++ newG found p v c).length ≤ 2 * manyG (found ++ newG found p v c) := by
  cases hn : newG found p v c with
  | nil => simpa using hf
  | cons g gs =>
    have hg : g ∈ newG found p v c := by rw [hn]; simp
    have hg' := List.mem_filter.mp hg
    have m := many_more (found := found) (new := newG found p v c) (gapsT_bd hp h hg'.1) (by simpa using hg'.2) hg
    have l : (newG found p v c).length ≤ 2 := Nat.le_trans (List.length_filter_le _ _) gapsT_len
    rw [hn] at m l
    rw [List.length_append]
    omega
theorem new_map {L : List EvM} {q : Int → Bool} : (L.filter fun t => (t.2.2.isSome && (match t.2.2 with | some g => q g | none => false))).map (fun t => oD t.2.2) = ((L.filterMap (·.2.2)).filter q).map .int := by
  induction L with
  | nil => rfl
  | cons t L ih =>
    obtain ⟨i, s, o⟩ := t
    cases o with
    | none => simpa [List.filter_cons] using ih
    | some g =>
      by_cases hq : q g = true
      · simp [List.filter_cons, hq]
        simpa using ih
      · simp [List.filter_cons, hq]
        simpa using ih
def gaBody : FS := (asS (binD addG (xV 1) (vD (lcD (seqI (xD 5)) (gT 3 (gsC (gN 7) (gsC (gN 8) (gsC (gN 9) gsN)))) (andT (vT (notN (xV 9))) (vT (binD ninG (xV 9) (xV 1)))) (xD 9) [7, 8, 9]))) (gN 1))
theorem ga_step {p : PV} (hp : p.ok) {v : SV} (h : Inv p v) {c : Bool × Bool} {found : List Int} (hf : found.length ≤ 2 * manyG found) {c2 c3 c4 c6 : Cell} :
    gaBody [.dat p.d, .dat (.list (found.map .int)), c2, c3, c4, .dat (.tuple ((goneM p v c).map evD)), c6, .un, .un, .un] = some (.nx [.dat p.d, .dat (.list ((found ++ newG found p v c).map .int)), c2, c3, c4, .dat (.tuple ((goneM p v c).map evD)), c6, .un, .un, .un]) := by
  have size : sizeLine = 16777216 := rfl
  have lc : lcF (gT 3 (gsC (gN 7) (gsC (gN 8) (gsC (gN 9) gsN)))) (andT (vT (notN (xV 9))) (vT (binD ninG (xV 9) (xV 1)))) (xD 9) [7, 8, 9] ((goneM p v c).map evD) [.dat p.d, .dat (.list (found.map .int)), c2, c3, c4, .dat (.tuple ((goneM p v c).map evD)), c6, .un, .un, .un]
      = some ((newG found p v c).map .int, [.dat p.d, .dat (.list (found.map .int)), c2, c3, c4, .dat (.tuple ((goneM p v c).map evD)), c6, .un, .un, .un]) := by
    have hnm := new_map (L := goneM p v c) (q := fun g => !decide (g ∈ found))
    unfold newG gapsT
    rw [← hnm]
    refine lcF_on evD _ _ fun t ht => ?_
    obtain ⟨i, s, o⟩ := t
    refine ⟨[.dat p.d, .dat (.list (found.map .int)), c2, c3, c4, .dat (.tuple ((goneM p v c).map evD)), c6, .dat (.int i), .dat (.int s), .dat (oD o)], by simp [evD], ?_, fun _ => by simp, by simp [noOwn], by simp [wipeE]⟩
    cases o with
    | none => simp
    | some g =>
      have hi := nin_ints (L := found) (s := g)
      generalize found.map PyData.int = FL at *
      simp [hi]
  have m1 := newG_few (c := c) hp h hf
  have m2 := many_le (found := found ++ newG found p v c)
  have l1 : (found.map PyData.int).length + ((newG found p v c).map PyData.int).length ≤ 16777216 := by simp; simp at m1; omega
  rw [List.map_append]
  generalize (newG found p v c).map PyData.int = N at *
  generalize found.map PyData.int = FL at *
  generalize (goneM p v c).map evD = GE at *
  unfold gaBody
  generalize (andT (vT (notN (xV 9))) (vT (binD ninG (xV 9) (xV 1)))) = T at *
  simp [lc, noOwn, wipeE, backE, size, l1]
def lstOf (f : Dt) (L : List Int) : Prop := f = .list (L.map .int)
theorem gaps_by_e {p : PV} (hp : p.ok) : ∃ found : List Int, F_gaps_by [p.d] = some (.list (found.map .int), []) ∧ ∀ g, g ∈ found ↔ g ∈ gapsAll p := by
  have hw := edges_by_e hp
  have kn : keysN (eyD p (keysM p)) = true := keysN_sv
  have mk : (eyD p (keysM p)).map (fun x => x.2) = (keysM p).map (rowM p) := by simp [eyD, svD]
  obtain ⟨e', h1, found, done, c2, c3, c4, c5, c6, he, hL, hF, hM⟩ := for_rel (g := gN 2) (b := frS (seqI (xD 2)) (gT 4 (gsC (gN 3) (gsC (gN 4) (gsC (gN 5) (gsC (gN 6) gsN))))) gaBody) (rowM p)
    (fun (xs : List SV) e => ∃ (found : List Int) (done : List SV) (c2 c3 c4 c5 c6 : Cell), e = [.dat p.d, .dat (.list (found.map .int)), c2, c3, c4, c5, c6, .un, .un, .un] ∧ done ++ xs = keysM p ∧ found.length ≤ 2 * manyG found ∧ ∀ g, g ∈ found ↔ ∃ v ∈ done, ∃ c ∈ choM p v, g ∈ gapsT p v c)
    (xs := keysM p) (e := [.dat p.d, .dat (.list []), .un, .un, .un, .un, .un, .un, .un, .un]) ⟨[], [], .un, .un, .un, .un, .un, rfl, rfl, by simp, by simp⟩ (by
    rintro v xs e ⟨found, done, c2, c3, c4, c5, c6, rfl, hL, hF, hM⟩
    have hv : Inv p v := keys_inv hp (by rw [← hL]; simp)
    obtain ⟨e', g1, fnd, cs', d3, d4, d5, d6, rfl, g2, g3, g4⟩ := for_rel (g := gT 4 (gsC (gN 3) (gsC (gN 4) (gsC (gN 5) (gsC (gN 6) gsN))))) (b := gaBody) (edgD p v)
      (fun cs e => ∃ (fnd : List Int) (dn : List (Bool × Bool)) (c3 c4 c5 c6 : Cell), e = [.dat p.d, .dat (.list (fnd.map .int)), .dat (rowM p v), c3, c4, c5, c6, .un, .un, .un] ∧ dn ++ cs = choM p v ∧ fnd.length ≤ 2 * manyG fnd ∧ ∀ g, g ∈ fnd ↔ g ∈ found ∨ ∃ c ∈ dn, g ∈ gapsT p v c)
      (xs := choM p v) (e := [.dat p.d, .dat (.list (found.map .int)), .dat (rowM p v), c3, c4, c5, c6, .un, .un, .un]) ⟨found, [], c3, c4, c5, c6, rfl, rfl, hF, by simp⟩ (by
      rintro c cs e ⟨fnd, dn, c3, c4, c5, c6, rfl, hD, hF2, hM2⟩
      refine ⟨[.dat p.d, .dat (.list (fnd.map .int)), .dat (rowM p v), .dat (prD c), .dat (tickM p v c.1 c.2).d, .dat (.tuple ((goneM p v c).map evD)), .dat (.tuple ((cameM p v c).map evD)), .un, .un, .un], _, by simp [edgD], ga_step hp hv hF2, fnd ++ newG fnd p v c, dn ++ [c], _, _, _, _, rfl, by simpa using hD, newG_few hp hv hF2, fun g => ?_⟩
      rw [newG_mem, hM2]
      simp only [List.mem_append, List.mem_singleton]
      constructor
      · rintro ((z | ⟨c', z, z'⟩) | z)
        · exact .inl z
        · exact .inr ⟨c', .inl z, z'⟩
        · exact .inr ⟨c, .inr rfl, z⟩
      · rintro (z | ⟨c', z | rfl, z'⟩)
        · exact .inl (.inl z)
        · exact .inl (.inr ⟨c', z, z'⟩)
        · exact .inr z')
    rw [List.append_nil] at g2
    subst g2
    refine ⟨_, _, rfl, ?_, fnd, done ++ [v], .dat (rowM p v), d3, d4, d5, d6, rfl, by simpa using hL, g3, fun g => ?_⟩
    · have rs : seqD (rowM p v) = some ((choM p v).map (edgD p v)) := rfl
      generalize gaBody = B at *
      generalize rowM p v = R at *
      simp [rs, g1]
    · rw [g4, hM]
      simp only [List.mem_append, List.mem_singleton]
      constructor
      · rintro (⟨w, z, z'⟩ | z)
        · exact ⟨w, .inl z, z'⟩
        · exact ⟨v, .inr rfl, z⟩
      · rintro ⟨w, z | rfl, z'⟩
        · exact .inl ⟨w, z, z'⟩
        · exact .inr z')
  rw [List.append_nil] at hL
  subst hL
  subst he
  refine ⟨found, ?_, fun g => by rw [hM, gapsAll_mem]⟩
  unfold gaBody at h1
  generalize eyD p (keysM p) = W at *
  generalize found.map PyData.int = FL at *
  simp [F_gaps_by, iniE, ownsE, g_gaps_by, hw, isDr, kn, mk, h1]
end Pf

set_option Elab.async false
set_option linter.all false
set_option maxRecDepth 100000
set_option maxHeartbeats 4000000
namespace Pf
open PySem L2 DL DL.Ev
/-! somebody leaves a stop a second time -/
def noneN : List (Option Int) → Nat
  | [] => 0
  | none :: r => noneN r + 1
  | some _ :: r => noneN r
theorem noneN_set {x : Int} : ∀ {l : List (Option Int)} {i : Nat}, noneN (l.set i (some x)) ≤ noneN l ∧ (l[i]? = some none → noneN (l.set i (some x)) + 1 ≤ noneN l)
  | [], i => by simp [noneN]
  | o :: r, 0 => by cases o <;> simp [noneN]
  | o :: r, i + 1 => by
    obtain ⟨h1, h2⟩ := noneN_set (x := x) (l := r) (i := i)
    cases o <;> simp [noneN] <;> exact ⟨h1, h2⟩
theorem noneN_map : ∀ {l : List (Option Int)}, noneN (l.map (Option.map (· + 1))) = noneN l
  | [] => rfl
  | o :: r => by cases o <;> simp [noneN, noneN_map (l := r)]
theorem none_tick {p : PV} {v : SV} {c : Bool × Bool} : noneN (tickM p v c.1 c.2).ts ≤ noneN v.ts ∧ (outM v.a (tickM p v c.1 c.2).a → v.ts[v.a.s.toNat]? = some none → noneN (tickM p v c.1 c.2).ts + 1 ≤ noneN v.ts) := by
  have e0 : (stepM p v.cl 0 v.a c.1 ⟨v.ts, [], [], []⟩).now = if outM v.a (tickM p v c.1 c.2).a then v.ts.set v.a.s.toNat (some (-1)) else v.ts := rfl
  have e1 : (tickM p v c.1 c.2).ts = (if outM v.b (tickM p v c.1 c.2).b then (stepM p v.cl 0 v.a c.1 ⟨v.ts, [], [], []⟩).now.set v.b.s.toNat (some (-1)) else (stepM p v.cl 0 v.a c.1 ⟨v.ts, [], [], []⟩).now).map (Option.map (· + 1)) := rfl
  rw [e1, noneN_map, e0]
  by_cases ho : outM v.a (tickM p v c.1 c.2).a
  · rw [if_pos ho]
    have s0 := noneN_set (x := -1) (l := v.ts) (i := v.a.s.toNat)
    by_cases hb : outM v.b (tickM p v c.1 c.2).b
    · rw [if_pos hb]
      have s1 := noneN_set (x := -1) (l := v.ts.set v.a.s.toNat (some (-1))) (i := v.b.s.toNat)
      exact ⟨by omega, fun _ h => by have := s0.2 h; omega⟩
    · rw [if_neg hb]
      exact ⟨s0.1, fun _ h => s0.2 h⟩
  · rw [if_neg ho]
    refine ⟨?_, fun h => absurd h ho⟩
    split
    · exact (noneN_set (x := -1)).1
    · exact Nat.le_refl _
theorem exists_gap {p : PV} (hp : p.ok) {K : List SV} (hI : ∀ v ∈ K, Inv p v) (hc : ∀ v ∈ K, ∀ c ∈ choM p v, tickM p v c.1 c.2 ∈ K) : ∀ (m : Nat) (v : SV), v ∈ K → 15 * (noneN v.ts : Int) + d0M p v < m → ∃ u ∈ K, ∃ c ∈ choM p u, ∃ g, g ∈ gapsT p u c
  | 0, v, hv, hm => by
    have := (d0_bd hp (hI v hv)).1
    omega
  | m + 1, v, hv, hm => by
    have h := hI v hv
    have hne := cho_ne hp (v := v)
    obtain ⟨c, hcc⟩ : ∃ c, c ∈ choM p v := ⟨_, List.getElem_mem hne⟩
    have hv' := hc v hv c hcc
    have h' := hI _ hv'
    obtain ⟨n1, n2⟩ := none_tick (p := p) (v := v) (c := c)
    have d0 := d0_bd hp h
    by_cases ho : outM v.a (tickM p v c.1 c.2).a
    · cases hg : gapA p v with
      | some g =>
        refine ⟨v, hv, c, hcc, g, ?_⟩
        unfold gapsT goneM
        rw [if_pos ho, hg]
        simp
      | none =>
        have hz : v.ts[v.a.s.toNat]? = some none := by
          have a0 := h.a.1
          have a1 := h.a.2.1
          have tl := h.tl
          have hl : v.a.s.toNat < v.ts.length := by omega
          unfold gapA gapM at hg
          rw [List.getElem?_eq_getElem hl] at hg ⊢
          simp at hg
          rw [hg]
        have n3 := n2 ho hz
        have d1 := (d0_bd hp h').2
        have w := W_le hp (tickM p v c.1 c.2).a.s
        exact exists_gap hp hI hc m _ hv' (by split at w <;> omega)
    · obtain ⟨e0, e1⟩ := c
      have hx : e0 ∈ optsM p v.a := by
        simp only [choM, List.mem_flatMap, List.mem_map, Prod.mk.injEq] at hcc
        obtain ⟨x', hx, y', hy, rfl, rfl⟩ := hcc
        exact hx
      have := (d0_step (e1 := e1) hp h hx ho).2
      simp only at n1 this hv'
      exact exists_gap hp hI hc m _ hv' (by omega)
theorem keys_closed {p : PV} (hp : p.ok) : ∀ v ∈ keysM p, ∀ c ∈ choM p v, tickM p v c.1 c.2 ∈ keysM p := fun v hv c hc => by
  obtain ⟨x, hx, rfl⟩ := List.mem_map.mp hv
  obtain ⟨i, hi⟩ := List.mem_iff_getElem?.mp hx
  obtain ⟨y, y1, y2, _⟩ := (ways_bi hp).cl i (List.getElem?_eq_some_iff.mp hi).1 x hi c hc
  exact List.mem_map.mpr ⟨y, y1, y2⟩
theorem some_gap {p : PV} (hp : p.ok) : ∃ g, g ∈ gapsAll p := by
  have h0 : firstM p ∈ keysM p := List.mem_map.mpr ⟨_, ways_first hp, rfl⟩
  obtain ⟨u, hu, c, hc, g, hg⟩ := exists_gap hp (fun v hv => keys_inv hp hv) (keys_closed hp) (15 * noneN (firstM p).ts + (d0M p (firstM p)).toNat + 1) (firstM p) h0 (by omega)
  exact ⟨g, gapsAll_mem.mpr ⟨u, hu, c, hc, hg⟩⟩
/-! the numbers in their order -/
def rowsM (p : PV) : List Int := (upI 39).filter fun g => decide (g ∈ gapsAll p)
theorem gapsAll_bd {p : PV} (hp : p.ok) {g : Int} (h : g ∈ gapsAll p) : 0 ≤ g ∧ g ≤ 38 := by
  obtain ⟨v, hv, c, hc, hg⟩ := gapsAll_mem.mp h
  exact gapsT_bd hp (keys_inv hp hv) hg
theorem rows_mem {p : PV} (hp : p.ok) {g : Int} : g ∈ rowsM p ↔ g ∈ gapsAll p := by
  unfold rowsM
  rw [List.mem_filter]
  constructor
  · intro h; simpa using h.2
  · intro h
    have := gapsAll_bd hp h
    exact ⟨mem_up this.1 (by omega), by simpa using h⟩
theorem rows_nd {p : PV} : (rowsM p).Nodup := (upI_nd 39).filter _
theorem rows_pw {p : PV} : (rowsM p).Pairwise (· ≤ ·) := by
  refine List.Pairwise.filter _ ?_
  unfold upI
  refine List.Pairwise.map _ (fun a b h => ?_) (List.pairwise_lt_range (n := 39))
  omega
theorem rows_ne {p : PV} (hp : p.ok) : rowsM p ≠ [] := by
  obtain ⟨g, hg⟩ := some_gap hp
  intro z
  have := (rows_mem hp).mpr hg
  rw [z] at this
  cases this
theorem rows_len {p : PV} : (rowsM p).length ≤ 39 := Nat.le_trans (List.length_filter_le _ _) (by rw [up_len]; exact Nat.le_refl _)
def loM (p : PV) : Int := (rowsM p).headD 0
def hiM (p : PV) : Int := (rowsM p).getLastD 0
theorem lo_is {p : PV} (hp : p.ok) : loM p ∈ gapsAll p ∧ (∀ g ∈ gapsAll p, loM p ≤ g) ∧ (rowsM p)[0]? = some (loM p) := by
  have ne := rows_ne hp
  have pw := rows_pw (p := p)
  have mm := fun g => rows_mem (g := g) hp
  unfold loM
  cases hr : rowsM p with
  | nil => exact absurd hr ne
  | cons g gs =>
    rw [hr] at pw mm
    refine ⟨(mm g).mp (by simp), fun x hx => ?_, rfl⟩
    rcases List.mem_cons.mp ((mm x).mpr hx) with rfl | hx
    · exact Int.le_refl _
    · exact (List.pairwise_cons.mp pw).1 x hx
theorem hi_is {p : PV} (hp : p.ok) : hiM p ∈ gapsAll p ∧ (∀ g ∈ gapsAll p, g ≤ hiM p) ∧ ∃ gs, rowsM p = gs ++ [hiM p] := by
  have ne := rows_ne hp
  have pw := rows_pw (p := p)
  have mm := fun g => rows_mem (g := g) hp
  have e : rowsM p = (rowsM p).dropLast ++ [hiM p] := by
    unfold hiM
    rw [List.getLastD_eq_getLast?, List.getLast?_eq_some_getLast ne]
    exact (List.dropLast_concat_getLast ne).symm
  generalize hiM p = h at *
  generalize (rowsM p).dropLast = gs at *
  rw [e] at pw mm
  refine ⟨(mm h).mp (by simp), fun x hx => ?_, gs, e⟩
  rcases List.mem_append.mp ((mm x).mpr hx) with hx | hx
  · exact (List.pairwise_append.mp pw).2.2 x hx h (by simp)
  · rw [List.mem_singleton.mp hx]; exact Int.le_refl _
theorem gaps_e {p : PV} (hp : p.ok) : F_gaps [p.d] = some (.tuple [.int (loM p), .int (hiM p)], []) := by
  obtain ⟨found, h1, h2⟩ := gaps_by_e hp
  obtain ⟨l1, l2, _⟩ := lo_is hp
  obtain ⟨g1, g2, _⟩ := hi_is hp
  have lk := look_e hp
  cases found with
  | nil => exact absurd ((h2 _).mpr l1) (by simp)
  | cons i is =>
    have hmin : minI i is = loM p := by
      obtain ⟨a, b, c⟩ := minI_le is i
      have m1 : minI i is ∈ gapsAll p := (h2 _).mp (by rcases c with c | c <;> simp [c])
      have m2 := l2 _ m1
      have m3 : minI i is ≤ loM p := by
        rcases List.mem_cons.mp ((h2 _).mpr l1) with z | z
        · rw [z]; exact a
        · exact b _ z
      omega
    have hmax : maxI i is = hiM p := by
      obtain ⟨a, b, c⟩ := maxI_ge is i
      have m1 : maxI i is ∈ gapsAll p := (h2 _).mp (by rcases c with c | c <;> simp [c])
      have m2 := g2 _ m1
      have m3 : hiM p ≤ maxI i is := by
        rcases List.mem_cons.mp ((h2 _).mpr g1) with z | z
        · rw [z]; exact a
        · exact b _ z
      omega
    have i1 := intsOf_map (i :: is)
    have e1 : minG [.list ((i :: is).map .int)] = some (.int (loM p)) := by
      show (match intsOf ((i :: is).map .int) with | some (i :: is) => some (PyData.int (minI i is)) | _ => none) = _
      rw [i1, ← hmin]
    have e2 : maxG [.list ((i :: is).map .int)] = some (.int (hiM p)) := by
      show (match intsOf ((i :: is).map .int) with | some (i :: is) => some (PyData.int (maxI i is)) | _ => none) = _
      rw [i1, ← hmax]
    generalize (i :: is).map PyData.int = FL at *
    simp [F_gaps, iniE, ownsE, g_gaps, lk, h1, e1, e2, isDr]
end Pf

set_option Elab.async false
set_option linter.all false
set_option maxRecDepth 100000
set_option maxHeartbeats 4000000
namespace Pf
open PySem L2 DL DL.Ev
/-! the law's gaps -/
def isD (is : List Int) : List (Dt × Dt) := is.map fun i => (.int i, .bool true)
theorem put_is {is : List Int} {g : Int} : putP (isD is) (.int g) (.bool true) = isD (if g ∈ is then is else is ++ [g]) := by
  have ha : ((isD is).any fun p => PyData.eqv p.1 (.int g)) = decide (g ∈ is) := by
    unfold isD
    rw [List.any_map, Bool.eq_iff_iff]
    simp
  unfold putP
  rw [ha]
  by_cases h : g ∈ is
  · rw [if_pos (decide_eq_true h), if_pos h]
    unfold isD
    rw [List.map_map]
    refine List.map_congr_left fun i _ => ?_
    simp
  · rw [if_neg (by simpa using h), if_neg h]
    simp [isD]
theorem ok_is : ∀ {is : List Int}, keysOk (isD is) = true
  | [] => rfl
  | i :: is => by
    have := ok_is (is := is)
    unfold keysOk isD at *
    rw [List.map_cons, List.all_cons, this]
    rfl
theorem ints_is : ∀ {is : List Int}, keyInts (isD is) = some is
  | [] => rfl
  | i :: is => by
    have := ints_is (is := is)
    show (keyInts (isD is)).bind _ = _
    rw [this]
    rfl
def lgBody : FS := (ifS (vT (notN (xV 5))) (stK 1 (kD (.bool true)) (xD 5)) skS)
def addI (is : List Int) (o : Option Int) : List Int := match o with
  | none => is
  | some g => if g ∈ is then is else is ++ [g]
theorem lg_step {EL c2 c3 c4 : Dt} {is : List Int} {o : Option Int} (hl : is.length < 16777216) : lgBody [.dat EL, .own (.dict (isD is)), .dat c2, .dat c3, .dat c4, .dat (oD o)] = some (.nx [.dat EL, .own (.dict (isD (addI is o))), .dat c2, .dat c3, .dat c4, .dat (oD o)]) := by
  have size : sizeLine = 16777216 := rfl
  cases o with
  | none => simp [lgBody, addI]
  | some g =>
    have pi := put_is (is := is) (g := g)
    have ok := ok_is (is := is)
    have ln : (isD is).length < 16777216 := by simpa [isD] using hl
    unfold addI
    simp only
    rw [← pi]
    generalize isD is = W at *
    simp [lgBody, ok, keyOf, size, ln]
theorem addI_ok {is : List Int} {o : Option Int} (hn : is.Nodup) (hb : ∀ i ∈ is, 0 ≤ i ∧ i ≤ 38) (ho : ∀ g, o = some g → 0 ≤ g ∧ g ≤ 38) : (addI is o).Nodup ∧ (∀ i ∈ addI is o, 0 ≤ i ∧ i ≤ 38) ∧ ∀ g, g ∈ addI is o ↔ g ∈ is ∨ o = some g := by
  cases o with
  | none => exact ⟨hn, hb, fun g => by simp [addI]⟩
  | some g =>
    unfold addI
    simp only
    by_cases h : g ∈ is
    · rw [if_pos h]
      refine ⟨hn, hb, fun g' => ⟨.inl, ?_⟩⟩
      rintro (z | z)
      · exact z
      · cases z; exact h
    · rw [if_neg h]
      refine ⟨?_, fun i hi => ?_, fun g' => ?_⟩
      · rw [List.nodup_append]
        exact ⟨hn, by simp, fun a ha b hb => by rw [List.mem_singleton] at hb; subst hb; exact fun z => h (z ▸ ha)⟩
      · rcases List.mem_append.mp hi with hi | hi
        · exact hb i hi
        · rw [List.mem_singleton] at hi; subst hi; exact ho _ rfl
      · simp [List.mem_append, eq_comm]
theorem few_ints {is : List Int} (hn : is.Nodup) (hb : ∀ i ∈ is, 0 ≤ i ∧ i ≤ 38) : is.length ≤ 39 := by
  have := nodup_sub (ys := upI 39) hn fun i hi => mem_up (hb i hi).1 (by have := (hb i hi).2; omega)
  rwa [up_len] at this
/-! the waits -/
def wStep (w : List Int) (t : EvM) : List Int := w.set t.2.1.toNat (if t.2.2.getD 0 > w.getD t.2.1.toNat 0 then t.2.2.getD 0 else w.getD t.2.1.toNat 0)
def waitsM (p : PV) : List Int := (edgesM p).foldl (fun w x => (cameM p x.1 x.2).foldl wStep w) (List.replicate p.n 0)
theorem wStep_len {w : List Int} {t : EvM} : (wStep w t).length = w.length := by simp [wStep]
theorem wSteps_len : ∀ {ts : List EvM} {w : List Int}, (ts.foldl wStep w).length = w.length
  | [], _ => rfl
  | t :: ts, w => by rw [List.foldl_cons, wSteps_len, wStep_len]
theorem wAll_len {p : PV} : ∀ {xs : List (SV × (Bool × Bool))} {w : List Int}, (xs.foldl (fun w x => (cameM p x.1 x.2).foldl wStep w) w).length = w.length
  | [], _ => rfl
  | x :: xs, w => by rw [List.foldl_cons, wAll_len, wSteps_len]
theorem waits_len {p : PV} : (waitsM p).length = p.n := by unfold waitsM; rw [wAll_len]; simp
/-- the store, whichever the names -/
theorem w_ev {p : PV} {w : List Int} {t : EvM} (hl : w.length = p.n) (ht : EvOk p t) : atI (w.map PyData.int) t.2.1 = some (.int (w.getD t.2.1.toNat 0)) ∧ ixN w.length t.2.1 = some t.2.1.toNat ∧
    (w.map PyData.int).set t.2.1.toNat (.int (if t.2.2.getD 0 > w.getD t.2.1.toNat 0 then t.2.2.getD 0 else w.getD t.2.1.toNat 0)) = (wStep w t).map .int := by
  obtain ⟨h0, h1, _⟩ := ht
  have hi := ixN_nat (n := w.length) h0 (by omega)
  refine ⟨?_, hi, by unfold wStep; rw [List.map_set]⟩
  unfold atI
  rw [List.length_map, hi]
  have : t.2.1.toNat < w.length := by omega
  simp [this]
def waBody (k s g : Nat) : FS := (stS k (callD maxG (aC (vD (binD ixG (xV k) (xV s))) (aC (vD (ifD (vT (isN (xV g))) (kD (.int 0)) (xD g))) aN))) (xD s))
theorem wa_prog {p : PV} {w : List Int} {t : EvM} (hl : w.length = p.n) (ht : EvOk p t) {c0 c2 c3 c4 c5 c6 c7 : Cell} : waBody 1 8 9 [c0, .own (.list (w.map .int)), c2, c3, c4, c5, c6, c7, .dat (.int t.2.1), .dat (oD t.2.2)] = some (.nx [c0, .own (.list ((wStep w t).map .int)), c2, c3, c4, c5, c6, c7, .dat (.int t.2.1), .dat (oD t.2.2)]) := by
  obtain ⟨w1, w2, w3⟩ := w_ev hl ht
  have w2' : ixN (w.map PyData.int).length t.2.1 = some t.2.1.toNat := by rw [List.length_map]; exact w2
  rw [← w3]
  generalize w.getD t.2.1.toNat 0 = old at *
  generalize w.map PyData.int = W at *
  obtain ⟨i, s, o⟩ := t
  simp only at w1 w2'
  cases o <;> simp [waBody, w1, w2']
theorem wa_law {p : PV} {w : List Int} {t : EvM} (hl : w.length = p.n) (ht : EvOk p t) {c0 c1 c3 c4 : Cell} : waBody 2 5 6 [c0, c1, .own (.list (w.map .int)), c3, c4, .dat (.int t.2.1), .dat (oD t.2.2)] = some (.nx [c0, c1, .own (.list ((wStep w t).map .int)), c3, c4, .dat (.int t.2.1), .dat (oD t.2.2)]) := by
  obtain ⟨w1, w2, w3⟩ := w_ev hl ht
  have w2' : ixN (w.map PyData.int).length t.2.1 = some t.2.1.toNat := by rw [List.length_map]; exact w2
  rw [← w3]
  generalize w.getD t.2.1.toNat 0 = old at *
  generalize w.map PyData.int = W at *
  obtain ⟨i, s, o⟩ := t
  simp only at w1 w2'
  cases o <;> simp [waBody, w1, w2']
theorem rep_zero {n : Nat} : (List.replicate n [PyData.int 0]).flatten = (List.replicate n (0 : Int)).map .int := by
  induction n with
  | zero => rfl
  | succ n ih => rw [List.replicate_succ, List.flatten_cons, ih]; rfl
end Pf

set_option Elab.async false
set_option linter.all false
set_option maxRecDepth 100000
set_option maxHeartbeats 4000000
namespace Pf
open PySem L2 DL DL.Ev
/-! the program's waits -/
def wEdge (p : PV) (w : List Int) (x : SV × (Bool × Bool)) : List Int := (cameM p x.1 x.2).foldl wStep w
theorem waits_fold {p : PV} : waitsM p = (edgesM p).foldl (wEdge p) (List.replicate p.n 0) := rfl
theorem wEdge_len {p : PV} {w : List Int} {x : SV × (Bool × Bool)} : (wEdge p w x).length = w.length := wSteps_len
theorem wEdges_len {p : PV} {xs : List (SV × (Bool × Bool))} {w : List Int} : (xs.foldl (wEdge p) w).length = w.length := wAll_len
theorem waits_by_e {p : PV} (hp : p.ok) : F_waits_by [p.d] = some (.list ((waitsM p).map .int), []) := by
  have size : sizeLine = 16777216 := rfl
  have n3 := hp.n3
  have hw := edges_by_e hp
  have kn : keysN (eyD p (keysM p)) = true := keysN_sv
  have mk : (eyD p (keysM p)).map (fun x => x.2) = (keysM p).map (rowM p) := by simp [eyD, svD]
  -- the comings of one tick
  have inn := fun (v : SV) (c : Bool × Bool) (w : List Int) (hv : Inv p v) (hl : w.length = p.n) (c2 c3 c4 c5 c7 c8 c9 : Cell) => for_rel (g := gT 3 (gsC (gN 7) (gsC (gN 8) (gsC (gN 9) gsN)))) (b := waBody 1 8 9) evD
      (fun (ts : List EvM) e => ∃ (w' : List Int) (dn : List EvM) (c7 c8 c9 : Cell), e = [.dat p.d, .own (.list (w'.map .int)), c2, c3, c4, c5, .dat (.tuple ((cameM p v c).map evD)), c7, c8, c9] ∧ dn ++ ts = cameM p v c ∧ w' = dn.foldl wStep w)
      (xs := cameM p v c) (e := [.dat p.d, .own (.list (w.map .int)), c2, c3, c4, c5, .dat (.tuple ((cameM p v c).map evD)), c7, c8, c9]) ⟨w, [], c7, c8, c9, rfl, rfl, rfl⟩ (by
      rintro t ts e ⟨w', dn, c7, c8, c9, rfl, hD, rfl⟩
      have htm : t ∈ cameM p v c := by rw [← hD]; simp
      have ht := came_ok hp hv t htm
      refine ⟨[.dat p.d, .own (.list ((dn.foldl wStep w).map .int)), c2, c3, c4, c5, .dat (.tuple ((cameM p v c).map evD)), .dat (.int t.1), .dat (.int t.2.1), .dat (oD t.2.2)], _, by simp [evD], wa_prog (by rw [wSteps_len]; exact hl) ht, _, dn ++ [t], _, _, _, rfl, by simpa using hD, by rw [List.foldl_append]; rfl⟩)
  -- the ticks at one stand
  have mid := fun (v : SV) (w : List Int) (hv : Inv p v) (hl : w.length = p.n) (c3 c4 c5 c6 c7 c8 c9 : Cell) => for_rel (g := gT 4 (gsC (gN 3) (gsC (gN 4) (gsC (gN 5) (gsC (gN 6) gsN))))) (b := frS (seqI (xD 6)) (gT 3 (gsC (gN 7) (gsC (gN 8) (gsC (gN 9) gsN)))) (waBody 1 8 9)) (edgD p v)
      (fun (cs : List (Bool × Bool)) e => ∃ (w' : List Int) (dn : List (Bool × Bool)) (c3 c4 c5 c6 c7 c8 c9 : Cell), e = [.dat p.d, .own (.list (w'.map .int)), .dat (rowM p v), c3, c4, c5, c6, c7, c8, c9] ∧ dn ++ cs = choM p v ∧ w' = (dn.map fun c => (v, c)).foldl (wEdge p) w)
      (xs := choM p v) (e := [.dat p.d, .own (.list (w.map .int)), .dat (rowM p v), c3, c4, c5, c6, c7, c8, c9]) ⟨w, [], c3, c4, c5, c6, c7, c8, c9, rfl, rfl, rfl⟩ (by
      rintro c cs e ⟨w', dn, c3, c4, c5, c6, c7, c8, c9, rfl, hD, hw'⟩
      have hl' : w'.length = p.n := by rw [hw', wEdges_len]; exact hl
      obtain ⟨e', g1, w2, dn2, d7, d8, d9, rfl, g2, g3⟩ := inn v c w' hv hl' (.dat (rowM p v)) (.dat (prD c)) (.dat (tickM p v c.1 c.2).d) (.dat (.tuple ((goneM p v c).map evD))) c7 c8 c9
      rw [List.append_nil] at g2
      subst g2
      refine ⟨[.dat p.d, .own (.list (w'.map .int)), .dat (rowM p v), .dat (prD c), .dat (tickM p v c.1 c.2).d, .dat (.tuple ((goneM p v c).map evD)), .dat (.tuple ((cameM p v c).map evD)), c7, c8, c9], _, by simp [edgD], ?_, w2, dn ++ [c], .dat (prD c), .dat (tickM p v c.1 c.2).d, .dat (.tuple ((goneM p v c).map evD)), .dat (.tuple ((cameM p v c).map evD)), d7, d8, d9, rfl, by simpa using hD, ?_⟩
      · generalize waBody 1 8 9 = B at *
        generalize rowM p v = R at *
        generalize w'.map PyData.int = W' at *
        generalize w2.map PyData.int = W2 at *
        generalize (tickM p v c.1 c.2).d = T at *
        generalize prD c = pc at *
        simp [g1]
      · rw [g3, List.map_append, List.foldl_append, hw']
        rfl)
  obtain ⟨e', h1, w, done, c2, c3, c4, c5, c6, c7, c8, c9, he, hL, hW⟩ := for_rel (g := gN 2) (b := frS (seqI (xD 2)) (gT 4 (gsC (gN 3) (gsC (gN 4) (gsC (gN 5) (gsC (gN 6) gsN))))) (frS (seqI (xD 6)) (gT 3 (gsC (gN 7) (gsC (gN 8) (gsC (gN 9) gsN)))) (waBody 1 8 9))) (rowM p)
    (fun (xs : List SV) e => ∃ (w : List Int) (done : List SV) (c2 c3 c4 c5 c6 c7 c8 c9 : Cell), e = [.dat p.d, .own (.list (w.map .int)), c2, c3, c4, c5, c6, c7, c8, c9] ∧ done ++ xs = keysM p ∧ w = (done.flatMap fun v => (choM p v).map fun c => (v, c)).foldl (wEdge p) (List.replicate p.n 0))
    (xs := keysM p) (e := [.dat p.d, .own (.list ((List.replicate p.n (0 : Int)).map .int)), .un, .un, .un, .un, .un, .un, .un, .un]) ⟨_, [], .un, .un, .un, .un, .un, .un, .un, .un, rfl, rfl, rfl⟩ (by
    rintro v xs e ⟨w, done, c2, c3, c4, c5, c6, c7, c8, c9, rfl, hL, hW⟩
    have hv : Inv p v := keys_inv hp (by rw [← hL]; simp)
    have hl : w.length = p.n := by rw [hW, wEdges_len]; simp
    obtain ⟨e', g1, w', dn, d3, d4, d5, d6, d7, d8, d9, rfl, g2, g3⟩ := mid v w hv hl c3 c4 c5 c6 c7 c8 c9
    rw [List.append_nil] at g2
    subst g2
    refine ⟨_, _, rfl, ?_, w', done ++ [v], .dat (rowM p v), d3, d4, d5, d6, d7, d8, d9, rfl, by simpa using hL, ?_⟩
    · have rs : seqD (rowM p v) = some ((choM p v).map (edgD p v)) := rfl
      generalize waBody 1 8 9 = B at *
      generalize rowM p v = R at *
      generalize w'.map PyData.int = W' at *
      generalize w.map PyData.int = W at *
      simp [rs, g1]
    · rw [g3, List.flatMap_append, List.foldl_append, hW]
      simp)
  rw [List.append_nil] at hL
  subst hL
  subst he
  have hW' : w = waitsM p := hW
  subst hW'
  unfold waBody at h1
  have rz := rep_zero (n := p.n)
  have z1 : p.n ≤ 16777216 := by omega
  have z2 : (p.n : Int) < 9223372036854775808 := by omega
  have z3 : (-9223372036854775808 : Int) ≤ p.n := by omega
  generalize (waitsM p).map PyData.int = W at *
  generalize eyD p (keysM p) = E at *
  rw [List.map_replicate] at h1 rz
  simp [F_waits_by, iniE, ownsE, g_waits_by, pd0, hw, isDr, kn, mk, h1, rtO, repG, size, z1, z2, z3, rz]
theorem look_stop_e {p : PV} {s : Int} (h0 : 0 ≤ s) (h1 : s < p.n) : F_look_at_stop [p.d, .int s] = some (.none, []) := by
  have hw := is_within_e (v := .int s) (lo := 0) (hi := p.n - 1) (by simp)
  have : wIn (.int s) 0 (p.n - 1) = true := by simp [wIn]; omega
  rw [this] at hw
  simp [F_look_at_stop, iniE, ownsE, g_look_at_stop, pd0, hw, isDr]
theorem look_number_e {g : Int} (h0 : 0 ≤ g) (h1 : g ≤ 40) : F_look_at_number [.int g] = some (.none, []) := by
  have hw := is_within_e (v := .int g) (lo := 0) (hi := 40) (by simp)
  have : wIn (.int g) 0 40 = true := by simp [wIn, h0, h1]
  rw [this] at hw
  simp [F_look_at_number, iniE, ownsE, g_look_at_number, hw, isDr]
theorem longest_e {p : PV} (hp : p.ok) {s : Nat} (h1 : s < p.n) : F_longest_wait [p.d, .int s] = some (.int ((waitsM p).getD s 0), []) := by
  have lk := look_e hp
  have ls := look_stop_e (p := p) (s := s) (by omega) (by omega)
  have wb := waits_by_e hp
  have wl := waits_len (p := p)
  have hs : s < (waitsM p).length := by omega
  have ha : atI ((waitsM p).map PyData.int) (s : Int) = some (.int ((waitsM p).getD s 0)) := by
    rw [Ev.atI_nat, List.getElem?_map, List.getD_eq_getElem?_getD, List.getElem?_eq_getElem hs]
    rfl
  generalize (waitsM p).map PyData.int = W at *
  simp [F_longest_wait, iniE, ownsE, g_longest_wait, lk, ls, wb, isDr]
  rw [Ev.atI_nat] at ha
  simp [ha]
/-! the first gap -/
theorem in_gone {p : PV} {v : SV} {c : Bool × Bool} {g : Int} : inG (.int g) (.list ((goneM p v c).map fun t => oD t.2.2)) = some (.bool (decide (g ∈ gapsT p v c))) := by
  have h1 : ((goneM p v c).map fun t => oD t.2.2).all (okN 59) = true := by
    rw [List.all_map, List.all_eq_true]
    intro t _
    obtain ⟨i, s, o⟩ := t
    cases o <;> simp
  have h2 : (((goneM p v c).map fun t => oD t.2.2).any fun z => PyData.eqv z (.int g)) = decide (g ∈ gapsT p v c) := by
    unfold gapsT
    rw [List.any_map, Bool.eq_iff_iff, List.any_eq_true, decide_eq_true_iff, List.mem_filterMap]
    constructor
    · rintro ⟨t, ht, h⟩
      obtain ⟨i, s, o⟩ := t
      refine ⟨_, ht, ?_⟩
      cases o with
      | none => simp [PyData.eqv] at h
      | some x => simpa using h
    · rintro ⟨t, ht, h⟩
      obtain ⟨i, s, o⟩ := t
      refine ⟨_, ht, ?_⟩
      simp only at h
      subst h
      simp
  rw [in_l, if_pos ⟨by simp, by rw [ok_list]; exact h1⟩, h2]
def firstAt (p : PV) (g : Int) (x : SV × RunM) : Option Dt := (choM p x.1).findSome? fun c => if g ∈ gapsT p x.1 c then some (runD (x.2 ++ [c])) else none
def firstG (p : PV) (g : Int) : Option Dt := (waysM p).findSome? (firstAt p g)
def fgBody : FS := (ifS (vT (binD inG (xV 1) (vD (lcD (seqI (binD ixG (vD (cl0 F_passed (aC (xV 0) (aC (xV 2) (aC (xV 4) aN))))) (vD (kD (.int 1))))) (gT 3 (gsC (gN 5) (gsC (gN 6) (gsC (gN 7) gsN)))) yesT (xD 7) [5, 6, 7])))) (rtS (binD addG (xV 3) (vD (tupD (aC (xV 4) aN))))) skS)
theorem fg_step {p : PV} (hp : p.ok) {x : SV × RunM} (hx : x ∈ waysM p) {c : Bool × Bool} (hc : c ∈ choM p x.1) {g : Int} :
    (g ∉ gapsT p x.1 c → fgBody [.dat p.d, .dat (.int g), .dat x.1.d, .dat (runD x.2), .dat (prD c), .un, .un, .un] = some (.nx [.dat p.d, .dat (.int g), .dat x.1.d, .dat (runD x.2), .dat (prD c), .un, .un, .un])) ∧
    (g ∈ gapsT p x.1 c → fgBody [.dat p.d, .dat (.int g), .dat x.1.d, .dat (runD x.2), .dat (prD c), .un, .un, .un] = some (.rt (runD (x.2 ++ [c])) [.dat p.d, .dat (.int g), .dat x.1.d, .dat (runD x.2), .dat (prD c), .un, .un, .un])) := by
  have size : sizeLine = 16777216 := rfl
  have bi := ways_bi hp
  have hv := bi.inv hp hx
  have ht := (prog_step hp).t x.1 c hv hc
  rw [gone_eq, came_eq] at ht
  have few := (bi.few hp).1
  have hl : x.2.length ≤ (waysM p).length := by
    obtain ⟨i, hi⟩ := List.mem_iff_getElem?.mp hx
    have := bi.len i x hi
    have := (List.getElem?_eq_some_iff.mp hi).1
    omega
  have z1 : x.2.length ≤ 16777215 := by omega
  have rr : runD (x.2 ++ [c]) = .tuple (x.2.map prD ++ [prD c]) := by simp [runD]
  have rx : runD x.2 = .tuple (x.2.map prD) := rfl
  have ig := in_gone (p := p) (v := x.1) (c := c) (g := g)
  have lc : ∀ a b d e : Dt, lcF (gT 3 (gsC (gN 5) (gsC (gN 6) (gsC (gN 7) gsN)))) yesT (xD 7) [5, 6, 7] ((goneM p x.1 c).map evD) [.dat a, .dat (.int g), .dat b, .dat d, .dat e, .un, .un, .un] = some ((goneM p x.1 c).map (fun t => oD t.2.2), [.dat a, .dat (.int g), .dat b, .dat d, .dat e, .un, .un, .un]) := fun a b d e => by
    rw [lcF_on evD (fun _ => true) (fun t => oD t.2.2)]
    · rw [List.filter_eq_self.mpr (by simp)]
    · intro t _
      exact ⟨[.dat a, .dat (.int g), .dat b, .dat d, .dat e, .dat (.int t.1), .dat (.int t.2.1), .dat (oD t.2.2)], by simp [evD], rfl, fun _ => by simp, by simp [noOwn], by simp [wipeE]⟩
  rw [rr, rx]
  generalize (goneM p x.1 c).map (fun t => oD t.2.2) = GL at *
  generalize (goneM p x.1 c).map evD = GE at *
  generalize (tickM p x.1 c.1 c.2).d = t at *
  generalize x.1.d = v at *
  generalize prD c = pc at *
  constructor
  · intro hg
    rw [decide_eq_false hg] at ig
    simp [-in_l, fgBody, ht, isDr, lc, noOwn, wipeE, backE, ig]
  · intro hg
    rw [decide_eq_true hg] at ig
    simp [-in_l, fgBody, ht, isDr, lc, noOwn, wipeE, backE, ig, size, z1]
theorem first_gap_e {p : PV} (hp : p.ok) {g : Int} (h0 : 0 ≤ g) (h1 : g ≤ 40) : F_first_gap [p.d, .int g] = some ((firstG p g).getD .none, []) := by
  have lk := look_e hp
  have ln := look_number_e h0 h1
  have hw := ways_by_e hp
  have kn := keysN_sv (f := runD) (fs := waysM p)
  have mk : (svD runD (waysM p)).map (fun x => PyData.tuple [x.1, x.2]) = (waysM p).map fun x => .tuple [x.1.d, runD x.2] := by simp [svD]
  have inn := fun (x : SV × RunM) (hx : x ∈ waysM p) (c4 : Cell) => for_find (g := gN 4) (b := fgBody) prD (fun e => ∃ c4, e = [.dat p.d, .dat (.int g), .dat x.1.d, .dat (runD x.2), c4, .un, .un, .un]) (fun c => if g ∈ gapsT p x.1 c then some (runD (x.2 ++ [c])) else none)
    (xs := choM p x.1) (e := [.dat p.d, .dat (.int g), .dat x.1.d, .dat (runD x.2), c4, .un, .un, .un]) ⟨c4, rfl⟩ (by
    rintro c hc e ⟨c4, rfl⟩
    obtain ⟨f1, f2⟩ := fg_step (g := g) hp hx hc
    refine ⟨[.dat p.d, .dat (.int g), .dat x.1.d, .dat (runD x.2), .dat (prD c), .un, .un, .un], rfl, ?_⟩
    by_cases hg : g ∈ gapsT p x.1 c
    · rw [if_pos hg]
      exact .inr ⟨_, _, rfl, f2 hg, _, rfl⟩
    · rw [if_neg hg]
      exact .inl ⟨rfl, _, f1 hg, _, rfl⟩)
  have all := for_find (g := gT 2 (gsC (gN 2) (gsC (gN 3) gsN))) (b := frS (seqI (cl0 F_choices_of (aC (xV 0) (aC (xV 2) aN)))) (gN 4) fgBody) (fun x : SV × RunM => .tuple [x.1.d, runD x.2])
    (fun e => ∃ c2 c3 c4, e = [.dat p.d, .dat (.int g), c2, c3, c4, .un, .un, .un]) (firstAt p g) (xs := waysM p) (e := [.dat p.d, .dat (.int g), .un, .un, .un, .un, .un, .un]) ⟨.un, .un, .un, rfl⟩ (by
    rintro x hx e ⟨c2, c3, c4, rfl⟩
    have hv := (ways_bi hp).inv hp hx
    have hc := (prog_step hp).c x.1 hv
    refine ⟨[.dat p.d, .dat (.int g), .dat x.1.d, .dat (runD x.2), c4, .un, .un, .un], by simp, ?_⟩
    rcases inn x hx c4 with ⟨q1, e', q2, c4', rfl⟩ | ⟨r, e', q1, q2, c4', rfl⟩
    · refine .inl ⟨q1, [.dat p.d, .dat (.int g), .dat x.1.d, .dat (runD x.2), c4', .un, .un, .un], ?_, _, _, _, rfl⟩
      generalize fgBody = B at *
      generalize x.1.d = v at *
      simp [hc, isDr, q2]
    · refine .inr ⟨r, [.dat p.d, .dat (.int g), .dat x.1.d, .dat (runD x.2), c4', .un, .un, .un], q1, ?_, _, _, _, rfl⟩
      generalize fgBody = B at *
      generalize x.1.d = v at *
      simp [hc, isDr, q2])
  unfold firstG
  unfold fgBody at all
  generalize svD runD (waysM p) = W at *
  rcases all with ⟨q1, e', q2, c2, c3, c4, rfl⟩ | ⟨r, e', q1, q2, c2, c3, c4, rfl⟩
  · rw [q1]
    simp [F_first_gap, iniE, ownsE, g_first_gap, lk, ln, hw, isDr, kn, mk, q2]
  · rw [q1]
    simp [F_first_gap, iniE, ownsE, g_first_gap, lk, ln, hw, isDr, kn, mk, q2]
/-! the run to a stand -/
end Pf

set_option Elab.async false
set_option linter.all false
set_option maxRecDepth 100000
set_option maxHeartbeats 4000000
namespace Pf
open PySem L2 DL DL.Ev
/-! graphs: some edges of the walk through all stands -/
abbrev ChM := Bool × Bool
abbrev GM := List (SV × List ChM)
abbrev tkM (p : PV) (v : SV) (c : ChM) : SV := tickM p v c.1 c.2
def vsM (g : GM) : List SV := g.map (·.1)
def rowD (p : PV) (x : SV × List ChM) : Dt := .list (x.2.map (edgD p x.1))
def gD (p : PV) (g : GM) : List (Dt × Dt) := svD (rowD p) (g.map fun x => (x.1, x))
def setD (fs : List SV) : List (Dt × Dt) := svD PyData.bool (fs.map fun v => (v, true))
section
variable {p : PV} {g : GM}
theorem gD_keys : keysN (gD p g) = true := keysN_sv
theorem gD_len : (gD p g).length = g.length := by simp [gD, svD]
theorem gD_k : (gD p g).map (fun x => x.1) = (vsM g).map SV.d := by simp [gD, svD, vsM]
theorem gD_v : (gD p g).map (fun x => x.2) = g.map (rowD p) := by simp [gD, svD]
theorem gD_i : (gD p g).map (fun x => PyData.tuple [x.1, x.2]) = g.map fun x => .tuple [x.1.d, rowD p x] := by simp [gD, svD]
theorem gD_map : (g.map fun x => (x.1, x)).map (·.1) = vsM g := by simp [vsM]
theorem gD_put {x : SV × List ChM} (h : x.1 ∉ vsM g) : putNd (gD p g) x.1.d (rowD p x) = gD p (g ++ [x]) := by
  unfold gD
  rw [put_new (f := rowD p) (v := x.1) (a := x) (by rw [gD_map]; exact h)]
  simp
theorem gD_some {v : SV} : (getNd (gD p g) v.d).isSome = decide (v ∈ vsM g) := by unfold gD; rw [getN_some, gD_map]
theorem gD_at {x : SV × List ChM} (h : (vsM g).Nodup) (hx : x ∈ g) : getNd (gD p g) x.1.d = some (rowD p x) :=
  getN_at (f := rowD p) (x := (x.1, x)) (by rw [gD_map]; exact h) (List.mem_map.mpr ⟨x, hx, rfl⟩)
theorem gD_nil : gD p [] = [] := rfl
end
theorem set_keys {fs : List SV} : keysN (setD fs) = true := keysN_sv
theorem set_len {fs : List SV} : (setD fs).length = fs.length := by simp [setD, svD]
theorem set_map {fs : List SV} : (fs.map fun v => (v, true)).map (·.1) = fs := by rw [List.map_map]; exact List.map_id' fs
theorem set_some {fs : List SV} {v : SV} : (getNd (setD fs) v.d).isSome = decide (v ∈ fs) := by unfold setD; rw [getN_some, set_map]
theorem set_put {fs : List SV} {v : SV} : putNd (setD fs) v.d (.bool true) = setD (if v ∈ fs then fs else fs ++ [v]) := by
  by_cases h : v ∈ fs
  · rw [if_pos h]
    unfold putNd
    rw [set_some, if_pos (by simpa using h)]
    unfold setD svD
    rw [List.map_map, List.map_map, List.map_map]
    refine List.map_congr_left fun w _ => ?_
    simp
  · rw [if_neg h]
    unfold setD
    rw [put_new (f := PyData.bool) (v := v) (a := true) (by rw [set_map]; exact h)]
    simp
structure GOk (p : PV) (g : GM) : Prop where
  nd : (vsM g).Nodup
  ks : ∀ x ∈ g, x.1 ∈ keysM p
  cs : ∀ x ∈ g, ∀ c ∈ x.2, c ∈ choM p x.1
  cn : ∀ x ∈ g, x.2.length ≤ 4
theorem few_keys {p : PV} (hp : p.ok) {fs : List SV} (nd : fs.Nodup) (h : ∀ v ∈ fs, v ∈ keysM p) : fs.length < 16700000 := by
  have a := nodup_sub nd h
  have b := ((ways_bi hp).few hp).1
  unfold keysM at a
  rw [List.length_map] at a
  omega
theorem GOk.len {p : PV} (hp : p.ok) {g : GM} (h : GOk p g) : g.length < 16700000 := by
  have := few_keys hp h.nd fun v hv => by
    obtain ⟨x, hx, rfl⟩ := List.mem_map.mp hv
    exact h.ks x hx
  simpa [vsM] using this
theorem GOk.tgt {p : PV} (hp : p.ok) {g : GM} (h : GOk p g) {x : SV × List ChM} (hx : x ∈ g) {c : ChM} (hc : c ∈ x.2) : tkM p x.1 c ∈ keysM p := keys_closed hp x.1 (h.ks x hx) c (h.cs x hx c hc)
/-- all edges -/
def allG (p : PV) : GM := (keysM p).map fun v => (v, choM p v)
theorem all_ok {p : PV} (hp : p.ok) : GOk p (allG p) := by
  refine ⟨?_, fun x hx => ?_, fun x hx c hc => ?_, fun x hx => ?_⟩
  · unfold vsM allG
    rw [List.map_map]
    rw [show ((fun x : SV × List ChM => x.1) ∘ fun v => (v, choM p v)) = id from rfl, List.map_id]
    exact keys_nd hp
  all_goals
    obtain ⟨v, hv, rfl⟩ := List.mem_map.mp hx
  · exact hv
  · exact hc
  · exact cho_le
theorem all_edges {p : PV} : gD p (allG p) = eyD p (keysM p) := by
  unfold gD eyD allG svD rowD rowM
  rw [List.map_map, List.map_map, List.map_map]
  rfl
end Pf

set_option Elab.async false
set_option linter.all false
set_option maxRecDepth 100000
set_option maxHeartbeats 4000000
namespace Pf
open PySem L2 DL DL.Ev
/-! the edges that can be on rings -/
def manyI (g : GM) : Int := (g.map fun x => (x.2.length : Int)).sum
noncomputable def lensF : FD := lcD (dI dvals (xD 0)) (gN 3) yesT (callD lenG (aC (xV 3) aN)) [3]
theorem lens_e {p : PV} {g : GM} {c1 c2 : Cell} : lensF [.dat (.dict (gD p g)), c1, c2, .un, .un, .un] = some (.list (g.map fun x => .int x.2.length), [.dat (.dict (gD p g)), c1, c2, .un, .un, .un]) := by
  have kn := gD_keys (p := p) (g := g)
  have kv := gD_v (p := p) (g := g)
  have lc : ∀ c0 : Cell, lcF (gN 3) yesT (callD lenG (aC (xV 3) aN)) [3] (g.map (rowD p)) [c0, c1, c2, .un, .un, .un] = some (g.map (fun x => .int x.2.length), [c0, c1, c2, .un, .un, .un]) := fun c0 => by
    rw [lcF_on (rowD p) (fun _ => true) (fun x => .int x.2.length)]
    · rw [List.filter_eq_self.mpr (by simp)]
    · intro x _
      exact ⟨[c0, c1, c2, .dat (rowD p x), .un, .un], rfl, rfl, fun _ => by simp [rowD], by simp [noOwn], by simp [wipeE]⟩
  generalize gD p g = G at *
  generalize g.map (rowD p) = R at *
  simp [lensF, kn, kv, noOwn, wipeE, backE, lc]
theorem sum_lens {g : GM} : sumG [.list (g.map fun x => PyData.int x.2.length)] = some (.int (manyI g)) := by
  have : (g.map fun x => PyData.int x.2.length) = (g.map fun x => (x.2.length : Int)).map PyData.int := by simp
  rw [this, sum_l, intsOf_map]
  rfl
/-! where edges lead to -/
noncomputable def metM : FMk := inN (seqI (xD 3)) (gN 4) yesT (emN (binD ixG (xV 4) (vD (kD (.int 1)))) (kD (.bool true))) [4]
theorem met_e {p : PV} (hp : p.ok) {g : GM} (h : GOk p g) {c0 c1 c2 : Cell} : ∃ fs, dcL (gN 3) yesT metM [3, 4] (g.map (rowD p)) [] [c0, c1, c2, .un, .un, .un] = some (setD fs, [c0, c1, c2, .un, .un, .un]) ∧
    ∀ v, v ∈ fs ↔ ∃ x ∈ g, ∃ c ∈ x.2, tkM p x.1 c = v := by
  have size : sizeLine = 16777216 := rfl
  obtain ⟨ps', h1, fs, done, rfl, h2, h3, h4, h5⟩ := dcl_rel (g := gN 3) (t := yesT) (m := metM) (us := [3, 4]) (rowD p)
    (fun xs ps => ∃ (fs : List SV) (done : GM), ps = setD fs ∧ done ++ xs = g ∧ fs.Nodup ∧ (∀ v ∈ fs, v ∈ keysM p) ∧ ∀ v, v ∈ fs ↔ ∃ x ∈ done, ∃ c ∈ x.2, tkM p x.1 c = v) (e := [c0, c1, c2, .un, .un, .un])
    (xs := g) (ps := []) ⟨[], [], rfl, rfl, List.nodup_nil, by simp, by simp⟩ (by
    rintro x xs ps ⟨fs, done, rfl, h2, h3, h4, h5⟩
    have hx : x ∈ g := by rw [← h2]; simp
    obtain ⟨ps', g1, fs', dn, rfl, g2, g3, g4, g5⟩ := dcl_rel (g := gN 4) (t := yesT) (m := emN (binD ixG (xV 4) (vD (kD (.int 1)))) (kD (.bool true))) (us := [4]) (edgD p x.1)
      (fun cs ps => ∃ (fs' : List SV) (dn : List ChM), ps = setD fs' ∧ dn ++ cs = x.2 ∧ fs'.Nodup ∧ (∀ v ∈ fs', v ∈ keysM p) ∧ ∀ v, v ∈ fs' ↔ v ∈ fs ∨ ∃ c ∈ dn, tkM p x.1 c = v) (e := [c0, c1, c2, .dat (rowD p x), .un, .un])
      (xs := x.2) (ps := setD fs) ⟨fs, [], rfl, rfl, h3, h4, by simp⟩ (by
      rintro c cs ps ⟨fs', dn, rfl, g2, g3, g4, g5⟩
      have hc : c ∈ x.2 := by rw [← g2]; simp
      have ht := h.tgt hp hx hc
      have few := few_keys hp g3 g4
      have z : (setD fs').length < 16777216 := by rw [set_len]; omega
      have ok := ok_sv (tkM p x.1 c)
      have tt := tup_sv (tkM p x.1 c)
      have sp := set_put (fs := fs') (v := tkM p x.1 c)
      have ix : ixG (edgD p x.1 c) (.int 1) = some (tkM p x.1 c).d := by simp [edgD]
      refine ⟨[c0, c1, c2, .dat (rowD p x), .dat (edgD p x.1 c), .un], rfl, .inr ⟨setD (if tkM p x.1 c ∈ fs' then fs' else fs' ++ [tkM p x.1 c]), [c0, c1, c2, .dat (rowD p x), .dat (edgD p x.1 c), .un], rfl, ?_, by simp [noOwn], by simp [wipeE], _, dn ++ [c], rfl, by simpa using g2, ?_, ?_, fun v => ?_⟩⟩
      · rw [← sp]
        generalize setD fs' = W at *
        generalize (tkM p x.1 c).d = T at *
        generalize edgD p x.1 c = E at *
        simp [ix, ok, tt, z, size]
      · split
        · exact g3
        · rename_i hn
          rw [List.nodup_append]
          exact ⟨g3, by simp, fun a ha b hb => by rw [List.mem_singleton] at hb; subst hb; exact fun z => hn (z ▸ ha)⟩
      · split
        · exact g4
        · intro v hv
          rcases List.mem_append.mp hv with hv | hv
          · exact g4 v hv
          · rw [List.mem_singleton] at hv; subst hv; exact ht
      · have e : v ∈ (if tkM p x.1 c ∈ fs' then fs' else fs' ++ [tkM p x.1 c]) ↔ v ∈ fs' ∨ tkM p x.1 c = v := by
          split
          · rename_i hm
            constructor
            · exact .inl
            · rintro (z | rfl)
              · exact z
              · exact hm
          · rw [List.mem_append, List.mem_singleton]
            exact or_congr Iff.rfl eq_comm
        rw [e, g5]
        simp only [List.mem_append, List.mem_singleton]
        constructor
        · rintro ((z | ⟨c', z, z'⟩) | z)
          · exact .inl z
          · exact .inr ⟨c', .inl z, z'⟩
          · exact .inr ⟨c, .inr rfl, z⟩
        · rintro (z | ⟨c', z | rfl, z'⟩)
          · exact .inl (.inl z)
          · exact .inl (.inr ⟨c', z, z'⟩)
          · exact .inr z')
    rw [List.append_nil] at g2
    subst g2
    refine ⟨[c0, c1, c2, .dat (rowD p x), .un, .un], rfl, .inr ⟨setD fs', [c0, c1, c2, .dat (rowD p x), .un, .un], rfl, ?_, by simp [noOwn], by simp [wipeE], fs', done ++ [x], rfl, by simpa using h2, g3, g4, fun v => ?_⟩⟩
    · have sq : seqD (rowD p x) = some (x.2.map (edgD p x.1)) := rfl
      generalize rowD p x = R at *
      simp [metM, sq, noOwn, wipeE, g1]
    · rw [g5, h5]
      simp only [List.mem_append, List.mem_singleton]
      constructor
      · rintro (⟨y, z, z'⟩ | z)
        · exact ⟨y, .inl z, z'⟩
        · exact ⟨x, .inr rfl, z⟩
      · rintro ⟨y, z | rfl, z'⟩
        · exact .inl ⟨y, z, z'⟩
        · exact .inr z')
  rw [List.append_nil] at h2
  subst h2
  exact ⟨fs, h1, h5⟩
/-! those that are kept -/
theorem GOk.sub {p : PV} {g g' : GM} (h : GOk p g) (hs : (vsM g').Nodup) (hx : ∀ x ∈ g', ∃ y ∈ g, y.1 = x.1 ∧ (∀ c ∈ x.2, c ∈ y.2) ∧ x.2.length ≤ y.2.length) : GOk p g' := by
  refine ⟨hs, fun x hx' => ?_, fun x hx' c hc => ?_, fun x hx' => ?_⟩
  all_goals obtain ⟨y, hy, e, k, l⟩ := hx x hx'
  · rw [← e]; exact h.ks y hy
  · rw [← e]; exact h.cs y hy c (k c hc)
  · exact Nat.le_trans l (h.cn y hy)
theorem nd_filter {g : GM} {f : SV × List ChM → Bool} (h : (vsM g).Nodup) : (vsM (g.filter f)).Nodup := by
  unfold vsM at *
  exact List.Nodup.sublist (List.Sublist.map _ List.filter_sublist) h
def keepG (fs : List SV) (g : GM) : GM := g.filter fun x => decide (x.2 ≠ [] ∧ x.1 ∈ fs)
theorem keep_ok {p : PV} {g : GM} {fs : List SV} (h : GOk p g) : GOk p (keepG fs g) := h.sub (nd_filter h.nd) fun x hx => ⟨x, (List.mem_filter.mp hx).1, rfl, fun _ z => z, Nat.le_refl _⟩
def rowsG (p : PV) (g : GM) : GM := g.map fun x => (x.1, x.2.filter fun c => decide (tkM p x.1 c ∈ vsM g))
theorem vs_rows {p : PV} {g : GM} : vsM (rowsG p g) = vsM g := by unfold vsM rowsG; rw [List.map_map]; rfl
theorem rows_ok {p : PV} {g : GM} (h : GOk p g) : GOk p (rowsG p g) := h.sub (by rw [vs_rows]; exact h.nd) fun x hx => by
  obtain ⟨y, hy, rfl⟩ := List.mem_map.mp hx
  exact ⟨y, hy, rfl, fun c hc => (List.mem_filter.mp hc).1, List.length_filter_le _ _⟩
theorem ok_o : ∀ o : Option Int, ∀ n, okN (n + 1) (oD o) = true := fun o n => by cases o <;> simp
theorem ok_edg {p : PV} {v : SV} {c : ChM} : okN 59 (edgD p v c) = true := by
  have a : ∀ (ts : List EvM) n, (ts.map evD).all (okN (n + 2)) = true := fun ts n => by
    rw [List.all_map, List.all_eq_true]
    intro t _
    simp [evD, ok_o]
  have b : ∀ (ts : List (Option Int)) n, (ts.map oD).all (okN (n + 1)) = true := fun ts n => by
    rw [List.all_map, List.all_eq_true]
    intro t _
    exact ok_o _ _
  simp [edgD, prD, SV.d, PT.d, a, b]
theorem ok_row {p : PV} {x : SV × List ChM} : okD (rowD p x) = true := by
  unfold rowD
  rw [ok_list, List.all_map, List.all_eq_true]
  intro c _
  exact ok_edg
theorem row_ne {p : PV} {x : SV × List ChM} : neG (rowD p x) (.list []) = some (.bool (decide (x.2 ≠ []))) := by
  rw [ne_g, if_pos ⟨ok_row, by simp⟩]
  unfold rowD
  cases h : x.2 <;> simp [PyData.eqv]
theorem keep_e {p : PV} (hp : p.ok) {g : GM} (h : GOk p g) {fs : List SV} {c0 c1 : Cell} :
    dcL (gT 2 (gsC (gN 5) (gsC (gN 3) gsN))) (andT (vT (binD neG (xV 3) (vD (lstD aN)))) (vT (binD inG (xV 5) (xV 2)))) (emN (xD 5) (xD 3)) [5, 3] (g.map fun x => .tuple [x.1.d, rowD p x]) [] [c0, c1, .dat (.dict (setD fs)), .un, .un, .un]
      = some (gD p (keepG fs g), [c0, c1, .dat (.dict (setD fs)), .un, .un, .un]) := by
  have size : sizeLine = 16777216 := rfl
  have hl := h.len hp
  have kn := set_keys (fs := fs)
  obtain ⟨ps', h1, done, rfl, h2⟩ := dcl_rel (g := gT 2 (gsC (gN 5) (gsC (gN 3) gsN))) (t := andT (vT (binD neG (xV 3) (vD (lstD aN)))) (vT (binD inG (xV 5) (xV 2)))) (m := emN (xD 5) (xD 3)) (us := [5, 3]) (fun x : SV × List ChM => .tuple [x.1.d, rowD p x])
    (fun xs ps => ∃ done : GM, ps = gD p (keepG fs done) ∧ done ++ xs = g) (e := [c0, c1, .dat (.dict (setD fs)), .un, .un, .un]) (xs := g) (ps := []) ⟨[], rfl, rfl⟩ (by
    rintro x xs ps ⟨done, rfl, h2⟩
    have hx : x ∈ g := by rw [← h2]; simp
    have ok := ok_sv x.1
    have tt := tup_sv x.1
    have rn := row_ne (p := p) (x := x)
    have ss := set_some (fs := fs) (v := x.1)
    have hn : x.1 ∉ vsM (keepG fs done) := fun z => by
      have nd := h.nd
      rw [← h2] at nd
      unfold vsM at nd
      rw [List.map_append, List.nodup_append] at nd
      obtain ⟨y, hy, e⟩ := List.mem_map.mp z
      exact nd.2.2 y.1 (List.mem_map.mpr ⟨y, (List.mem_filter.mp hy).1, rfl⟩) x.1 (by simp) e
    have hd : done.length < 16777216 := by
      have := congrArg List.length h2
      simp at this
      omega
    have hz : (gD p (keepG fs done)).length < 16777216 := by
      rw [gD_len]
      exact Nat.lt_of_le_of_lt (List.length_filter_le _ _) hd
    have gp := gD_put (p := p) hn
    refine ⟨[c0, c1, .dat (.dict (setD fs)), .dat (rowD p x), .un, .dat x.1.d], by simp, ?_⟩
    have kk : keepG fs (done ++ [x]) = if x.2 ≠ [] ∧ x.1 ∈ fs then keepG fs done ++ [x] else keepG fs done := by
      unfold keepG
      rw [List.filter_append, List.filter_cons]
      by_cases hh : x.2 ≠ [] ∧ x.1 ∈ fs
      · rw [decide_eq_true hh, if_pos hh]; rfl
      · rw [decide_eq_false hh, if_neg hh]; simp
    by_cases hh : x.2 ≠ [] ∧ x.1 ∈ fs
    · rw [if_pos hh] at kk
      rw [decide_eq_true hh.1] at rn
      rw [decide_eq_true hh.2] at ss
      refine .inr ⟨gD p (keepG fs (done ++ [x])), [c0, c1, .dat (.dict (setD fs)), .dat (rowD p x), .un, .dat x.1.d], ?_, ?_, by simp [noOwn], by simp [wipeE], done ++ [x], rfl, by simpa using h2⟩
      · generalize setD fs = W at *
        generalize rowD p x = R at *
        generalize x.1.d = V at *
        simp [-ne_g, rn, kn, ok, tt, ss]
      · rw [kk, ← gp]
        generalize gD p (keepG fs done) = W at *
        generalize rowD p x = R at *
        generalize x.1.d = V at *
        simp [ok, tt, hz, size]
    · rw [if_neg hh] at kk
      refine .inl ⟨?_, by simp [noOwn], by simp [wipeE], done ++ [x], by rw [kk], by simpa using h2⟩
      by_cases h0 : x.2 ≠ []
      · have h1 : ¬ x.1 ∈ fs := fun z => hh ⟨h0, z⟩
        rw [decide_eq_true h0] at rn
        rw [decide_eq_false h1] at ss
        generalize setD fs = W at *
        generalize rowD p x = R at *
        generalize x.1.d = V at *
        simp [-ne_g, rn, kn, ok, tt, ss]
      · rw [decide_eq_false h0] at rn
        generalize rowD p x = R at *
        simp [-ne_g, rn])
  rw [List.append_nil] at h2
  subst h2
  exact h1
theorem rows_e {p : PV} (hp : p.ok) {g : GM} (h : GOk p g) {c1 c2 : Cell} :
    dcL (gT 2 (gsC (gN 5) (gsC (gN 3) gsN))) yesT (emN (xD 5) (lcD (seqI (xD 3)) (gN 4) (vT (binD inG (vD (binD ixG (xV 4) (vD (kD (.int 1))))) (xV 0))) (xD 4) [4])) [5, 3] (g.map fun x => .tuple [x.1.d, rowD p x]) [] [.dat (.dict (gD p g)), c1, c2, .un, .un, .un]
      = some (gD p (rowsG p g), [.dat (.dict (gD p g)), c1, c2, .un, .un, .un]) := by
  have size : sizeLine = 16777216 := rfl
  have hl := h.len hp
  have kn := gD_keys (p := p) (g := g)
  let cut : SV × List ChM → SV × List ChM := fun x => (x.1, x.2.filter fun c => decide (tkM p x.1 c ∈ vsM g))
  obtain ⟨ps', h1, done, rfl, h2⟩ := dcl_rel (g := gT 2 (gsC (gN 5) (gsC (gN 3) gsN))) (t := yesT) (m := emN (xD 5) (lcD (seqI (xD 3)) (gN 4) (vT (binD inG (vD (binD ixG (xV 4) (vD (kD (.int 1))))) (xV 0))) (xD 4) [4])) (us := [5, 3]) (fun x : SV × List ChM => .tuple [x.1.d, rowD p x])
    (fun xs ps => ∃ done : GM, ps = gD p (done.map cut) ∧ done ++ xs = g) (e := [.dat (.dict (gD p g)), c1, c2, .un, .un, .un]) (xs := g) (ps := []) ⟨[], rfl, rfl⟩ (by
    rintro x xs ps ⟨done, rfl, h2⟩
    have hx : x ∈ g := by rw [← h2]; simp
    have ok := ok_sv x.1
    have tt := tup_sv x.1
    have hn : (cut x).1 ∉ vsM (done.map cut) := fun z => by
      have nd := h.nd
      rw [← h2] at nd
      unfold vsM at nd z
      rw [List.map_append, List.nodup_append] at nd
      obtain ⟨y', hy', e⟩ := List.mem_map.mp z
      obtain ⟨y, hy, rfl⟩ := List.mem_map.mp hy'
      exact nd.2.2 y.1 (List.mem_map.mpr ⟨y, hy, rfl⟩) x.1 (by simp) e
    have hz : (gD p (done.map cut)).length < 16777216 := by
      rw [gD_len, List.length_map]
      have := congrArg List.length h2
      simp at this
      omega
    have gp := gD_put (p := p) hn
    have lc : lcF (gN 4) (vT (binD inG (vD (binD ixG (xV 4) (vD (kD (.int 1))))) (xV 0))) (xD 4) [4] (x.2.map (edgD p x.1)) [.dat (.dict (gD p g)), c1, c2, .dat (rowD p x), .un, .dat x.1.d] = some ((cut x).2.map (edgD p x.1), [.dat (.dict (gD p g)), c1, c2, .dat (rowD p x), .un, .dat x.1.d]) := by
      rw [lcF_on (edgD p x.1) (fun c => decide (tkM p x.1 c ∈ vsM g)) (edgD p x.1)]
      intro c _
      have ix : ixG (edgD p x.1 c) (.int 1) = some (tkM p x.1 c).d := by simp [edgD]
      have gs := gD_some (p := p) (g := g) (v := tkM p x.1 c)
      have ok := ok_sv (tkM p x.1 c)
      have tt := tup_sv (tkM p x.1 c)
      refine ⟨[.dat (.dict (gD p g)), c1, c2, .dat (rowD p x), .dat (edgD p x.1 c), .dat x.1.d], rfl, ?_, fun _ => rfl, by simp [noOwn], by simp [wipeE]⟩
      rw [← gs]
      generalize gD p g = W at *
      generalize (tkM p x.1 c).d = T at *
      generalize edgD p x.1 c = E at *
      simp [ix, kn, ok, tt]
    refine ⟨[.dat (.dict (gD p g)), c1, c2, .dat (rowD p x), .un, .dat x.1.d], by simp, .inr ⟨gD p ((done ++ [x]).map cut), [.dat (.dict (gD p g)), c1, c2, .dat (rowD p x), .un, .dat x.1.d], rfl, ?_, by simp [noOwn], by simp [wipeE], done ++ [x], rfl, by simpa using h2⟩⟩
    have sq : seqD (rowD p x) = some (x.2.map (edgD p x.1)) := rfl
    have e1 : rowD p (cut x) = .list ((cut x).2.map (edgD p x.1)) := rfl
    have e2 : (cut x).1 = x.1 := rfl
    rw [List.map_append, List.map_singleton, ← gp, e1, e2]
    generalize (cut x).2.map (edgD p x.1) = CE at *
    generalize gD p (done.map cut) = W at *
    generalize gD p g = G at *
    generalize rowD p x = R at *
    generalize x.1.d = V at *
    simp [sq, lc, noOwn, wipeE, backE, ok, tt, hz, size])
  rw [List.append_nil] at h2
  subst h2
  exact h1
end Pf

set_option Elab.async false
set_option linter.all false
set_option maxRecDepth 100000
set_option maxHeartbeats 4000000
namespace Pf
open PySem L2 DL DL.Ev
def EIn (g : GM) (v : SV) (c : ChM) : Prop := ∃ x ∈ g, x.1 = v ∧ c ∈ x.2
def SubG (g' g : GM) : Prop := ∀ v c, EIn g' v c → EIn g v c
def ClosedG (p : PV) (g : GM) : Prop := ∀ v c, EIn g v c → tkM p v c ∈ vsM g
/-- edges that have such edges ahead and behind are kept -/
def KeepsG (p : PV) (g g' : GM) : Prop := ∀ S : SV → ChM → Prop, (∀ v c, S v c → EIn g v c ∧ (∃ u d, S u d ∧ tkM p u d = v) ∧ ∃ d, S (tkM p v c) d) → ∀ v c, S v c → EIn g' v c
theorem KeepsG.trans {p : PV} {a b c : GM} (h : KeepsG p a b) (k : KeepsG p b c) : KeepsG p a c := fun S hS => k S fun v d z => ⟨h S hS v d z, (hS v d z).2⟩
theorem EIn.vs {g : GM} {v : SV} {c : ChM} (h : EIn g v c) : v ∈ vsM g := by
  obtain ⟨x, hx, rfl, _⟩ := h
  exact List.mem_map.mpr ⟨x, hx, rfl⟩
theorem many_nn : ∀ g : GM, 0 ≤ manyI g
  | [] => Int.le_refl _
  | x :: g => by
    have := many_nn g
    unfold manyI at *
    rw [List.map_cons, List.sum_cons]
    omega
theorem many_filter {f : SV × List ChM → Bool} : ∀ g : GM, manyI (g.filter f) ≤ manyI g
  | [] => Int.le_refl _
  | x :: g => by
    have := many_filter (f := f) g
    rw [List.filter_cons]
    unfold manyI at *
    split
    · rw [List.map_cons, List.sum_cons, List.map_cons, List.sum_cons]
      omega
    · rw [List.map_cons, List.sum_cons]
      omega
theorem many_map {f : SV × List ChM → SV × List ChM} (hf : ∀ x, (f x).2.length ≤ x.2.length) : ∀ g : GM, manyI (g.map f) ≤ manyI g
  | [] => Int.le_refl _
  | x :: g => by
    have := many_map hf g
    have := hf x
    unfold manyI at *
    rw [List.map_cons, List.map_cons, List.sum_cons, List.map_cons, List.sum_cons]
    omega
def stepG (p : PV) (fs : List SV) (g : GM) : GM := rowsG p (keepG fs g)
theorem step_many {p : PV} {fs : List SV} {g : GM} : manyI (stepG p fs g) ≤ manyI g :=
  Int.le_trans (many_map (fun x => List.length_filter_le _ _) _) (many_filter g)
theorem ein_rows {p : PV} {g : GM} {v : SV} {c : ChM} : EIn (rowsG p g) v c ↔ EIn g v c ∧ tkM p v c ∈ vsM g := by
  unfold EIn rowsG
  constructor
  · rintro ⟨x, hx, rfl, hc⟩
    obtain ⟨y, hy, rfl⟩ := List.mem_map.mp hx
    obtain ⟨c1, c2⟩ := List.mem_filter.mp hc
    exact ⟨⟨y, hy, rfl, c1⟩, by simpa using c2⟩
  · rintro ⟨⟨x, hx, rfl, hc⟩, ht⟩
    exact ⟨_, List.mem_map.mpr ⟨x, hx, rfl⟩, rfl, List.mem_filter.mpr ⟨hc, by simpa using ht⟩⟩
theorem ein_keep {fs : List SV} {g : GM} {v : SV} {c : ChM} : EIn (keepG fs g) v c ↔ EIn g v c ∧ v ∈ fs := by
  unfold EIn keepG
  constructor
  · rintro ⟨x, hx, rfl, hc⟩
    obtain ⟨h1, h2⟩ := List.mem_filter.mp hx
    simp only [decide_eq_true_eq] at h2
    exact ⟨⟨x, h1, rfl, hc⟩, h2.2⟩
  · rintro ⟨⟨x, hx, rfl, hc⟩, hv⟩
    exact ⟨x, List.mem_filter.mpr ⟨hx, decide_eq_true ⟨fun z => (by rw [z] at hc; cases hc), hv⟩⟩, rfl, hc⟩
theorem step_ok {p : PV} {g : GM} (h : GOk p g) {fs : List SV} (hf : ∀ v, v ∈ fs ↔ ∃ x ∈ g, ∃ c ∈ x.2, tkM p x.1 c = v) :
    GOk p (stepG p fs g) ∧ SubG (stepG p fs g) g ∧ ClosedG p (stepG p fs g) ∧ KeepsG p g (stepG p fs g) := by
  unfold stepG
  refine ⟨rows_ok (keep_ok h), fun v c z => (ein_keep.mp (ein_rows.mp z).1).1, fun v c z => ?_, fun S hS v c z => ?_⟩
  · rw [vs_rows]
    exact (ein_rows.mp z).2
  · have key : ∀ v c, S v c → EIn (keepG fs g) v c := fun v c z => by
      obtain ⟨h1, ⟨u, d, hu, rfl⟩, _⟩ := hS v c z
      refine ein_keep.mpr ⟨h1, (hf _).mpr ?_⟩
      obtain ⟨x, hx, rfl, hc⟩ := (hS u d hu).1
      exact ⟨x, hx, d, hc, rfl⟩
    refine ein_rows.mpr ⟨key v c z, ?_⟩
    obtain ⟨_, _, d, hd⟩ := hS v c z
    exact (key _ d hd).vs
/-! the program's loop -/
noncomputable def coreT : FT := vT (binD neG (xV 1) (vD (callD sumG (aC (vD lensF) aN))))
noncomputable def coreB : FS := (sqS (asS (callD sumG (aC (vD lensF) aN)) (gN 1))
    (sqS (asS (dcD (dI dvals (xD 0)) (gN 3) yesT metM [3, 4]) (gN 2))
    (sqS (asS (dcD (dI dits (xD 0)) (gT 2 (gsC (gN 5) (gsC (gN 3) gsN))) (andT (vT (binD neG (xV 3) (vD (lstD aN)))) (vT (binD inG (xV 5) (xV 2)))) (emN (xD 5) (xD 3)) [5, 3]) (gN 0))
    (asS (dcD (dI dits (xD 0)) (gT 2 (gsC (gN 5) (gsC (gN 3) gsN))) yesT (emN (xD 5) (lcD (seqI (xD 3)) (gN 4) (vT (binD inG (vD (binD ixG (xV 4) (vD (kD (.int 1))))) (xV 0))) (xD 4) [4])) [5, 3]) (gN 0)))))
theorem coreT_e {p : PV} {g : GM} {m : Int} {c2 : Cell} : coreT [.dat (.dict (gD p g)), .dat (.int m), c2, .un, .un, .un] = some (decide (m ≠ manyI g), [.dat (.dict (gD p g)), .dat (.int m), c2, .un, .un, .un]) := by
  have l := lens_e (p := p) (g := g) (c1 := .dat (.int m)) (c2 := c2)
  have s := sum_lens (g := g)
  generalize (g.map fun x => PyData.int x.2.length) = L at *
  generalize gD p g = G at *
  generalize manyI g = k at *
  simp only [coreT, vT_e, binD_e, xV_e, vD_e, callD_e, aC_e, aN_e, bnd_s, List.getElem?_cons_succ, List.getElem?_cons_zero, l]
  simp [-sum_l, s]
  by_cases h : m = k <;> simp [h]
theorem coreB_e {p : PV} (hp : p.ok) {g : GM} (h : GOk p g) {m : Int} {c2 : Cell} : ∃ fs c2', coreB [.dat (.dict (gD p g)), .dat (.int m), c2, .un, .un, .un] = some (.nx [.dat (.dict (gD p (stepG p fs g))), .dat (.int (manyI g)), c2', .un, .un, .un]) ∧ ∀ v, v ∈ fs ↔ ∃ x ∈ g, ∃ c ∈ x.2, tkM p x.1 c = v := by
  obtain ⟨fs, h1, h2⟩ := met_e hp h (c0 := .dat (.dict (gD p g))) (c1 := .dat (.int (manyI g))) (c2 := c2)
  have h3 := keep_e hp h (fs := fs) (c0 := .dat (.dict (gD p g))) (c1 := .dat (.int (manyI g)))
  have h4 := rows_e hp (keep_ok (fs := fs) h) (c1 := .dat (.int (manyI g))) (c2 := .dat (.dict (setD fs)))
  have l := lens_e (p := p) (g := g) (c1 := .dat (.int m)) (c2 := c2)
  have s := sum_lens (g := g)
  have kn := gD_keys (p := p) (g := g)
  have kv := gD_v (p := p) (g := g)
  have ki := gD_i (p := p) (g := g)
  have kn2 := gD_keys (p := p) (g := keepG fs g)
  have ki2 := gD_i (p := p) (g := keepG fs g)
  refine ⟨fs, .dat (.dict (setD fs)), ?_, h2⟩
  unfold stepG
  generalize (g.map fun x => PyData.int x.2.length) = L at *
  generalize manyI g = k at *
  generalize g.map (rowD p) = R at *
  generalize (g.map fun x => PyData.tuple [x.1.d, rowD p x]) = I at *
  generalize ((keepG fs g).map fun x => PyData.tuple [x.1.d, rowD p x]) = I2 at *
  generalize gD p (rowsG p (keepG fs g)) = G3 at *
  generalize gD p (keepG fs g) = G2 at *
  generalize gD p g = G at *
  generalize setD fs = W at *
  have a1 : asS (callD sumG (aC (vD lensF) aN)) (gN 1) [.dat (.dict G), .dat (.int m), c2, .un, .un, .un] = some (.nx [.dat (.dict G), .dat (.int k), c2, .un, .un, .un]) := by
    simp only [asS_e, callD_e, aC_e, aN_e, vD_e, bnd_s, l]
    simp [-sum_l, s]
  have a2 : asS (dcD (dI dvals (xD 0)) (gN 3) yesT metM [3, 4]) (gN 2) [.dat (.dict G), .dat (.int k), c2, .un, .un, .un] = some (.nx [.dat (.dict G), .dat (.int k), .dat (.dict W), .un, .un, .un]) := by
    simp [kn, kv, noOwn, wipeE, backE, h1]
  have a3 : asS (dcD (dI dits (xD 0)) (gT 2 (gsC (gN 5) (gsC (gN 3) gsN))) (andT (vT (binD neG (xV 3) (vD (lstD aN)))) (vT (binD inG (xV 5) (xV 2)))) (emN (xD 5) (xD 3)) [5, 3]) (gN 0) [.dat (.dict G), .dat (.int k), .dat (.dict W), .un, .un, .un] = some (.nx [.dat (.dict G2), .dat (.int k), .dat (.dict W), .un, .un, .un]) := by
    simp [kn, ki, noOwn, wipeE, backE, h3]
  have a4 : asS (dcD (dI dits (xD 0)) (gT 2 (gsC (gN 5) (gsC (gN 3) gsN))) yesT (emN (xD 5) (lcD (seqI (xD 3)) (gN 4) (vT (binD inG (vD (binD ixG (xV 4) (vD (kD (.int 1))))) (xV 0))) (xD 4) [4])) [5, 3]) (gN 0) [.dat (.dict G2), .dat (.int k), .dat (.dict W), .un, .un, .un] = some (.nx [.dat (.dict G3), .dat (.int k), .dat (.dict W), .un, .un, .un]) := by
    simp [kn2, ki2, noOwn, wipeE, backE, h4]
  unfold coreB
  simp only [sqS_e, a1, a2, a3, a4, bnd_s]
structure CoreOk (p : PV) (g gf : GM) : Prop where
  ok : GOk p gf
  sub : SubG gf g
  cl : ClosedG p gf
  kp : KeepsG p g gf
theorem core_while {p : PV} (hp : p.ok) : ∀ (n : Nat) {g : GM} {m : Int} {c2 : Cell}, GOk p g → ClosedG p g → manyI g ≤ m → m ≤ n →
    ∃ k gf m' c2', whN coreT coreB k [.dat (.dict (gD p g)), .dat (.int m), c2, .un, .un, .un] = some (.nx [.dat (.dict (gD p gf)), .dat (.int m'), c2', .un, .un, .un]) ∧ CoreOk p g gf
  | n, g, m, c2, h, hc, hm, hn => by
    by_cases e : m = manyI g
    · exact ⟨1, g, m, c2, wh_done (by rw [coreT_e]; simp [e]), h, fun _ _ z => z, hc, fun S hS v c z => (hS v c z).1⟩
    · have nn := many_nn g
      cases n with
      | zero => omega
      | succ n =>
        obtain ⟨fs, c2', b1, b2⟩ := coreB_e hp h (m := m) (c2 := c2)
        obtain ⟨s1, s2, s3, s4⟩ := step_ok h b2
        obtain ⟨k, gf, m', c2'', w1, w2⟩ := core_while hp n (c2 := c2') s1 s3 step_many (by omega)
        exact ⟨k + 1, gf, m', c2'', wh_turn (by rw [coreT_e]; simp [e]) b1 w1, w2.ok, fun v c z => s2 v c (w2.sub v c z), w2.cl, s4.trans w2.kp⟩
end Pf

set_option Elab.async false
set_option linter.all false
set_option maxRecDepth 100000
set_option maxHeartbeats 4000000
namespace Pf
open PySem L2 DL DL.Ev
/-! close edges -/
def nearB (most : Int) (o : Option Int) : Bool := match o with
  | none => false
  | some g => decide (g ≤ most)
def closeB (i most : Int) (ts : List EvM) : Bool := ((ts.filter fun t => decide (t.1 = i)).map fun t => nearB most t.2.2).all id
def cutG (pr : SV → ChM → Bool) (g : GM) : GM := g.map fun x => (x.1, x.2.filter (pr x.1))
theorem vs_cut {pr : SV → ChM → Bool} {g : GM} : vsM (cutG pr g) = vsM g := by unfold vsM cutG; rw [List.map_map]; rfl
theorem cut_ok {p : PV} {pr : SV → ChM → Bool} {g : GM} (h : GOk p g) : GOk p (cutG pr g) := h.sub (by rw [vs_cut]; exact h.nd) fun x hx => by
  obtain ⟨y, hy, rfl⟩ := List.mem_map.mp hx
  exact ⟨y, hy, rfl, fun c hc => (List.mem_filter.mp hc).1, List.length_filter_le _ _⟩
theorem ein_cut {pr : SV → ChM → Bool} {g : GM} {v : SV} {c : ChM} : EIn (cutG pr g) v c ↔ EIn g v c ∧ pr v c = true := by
  unfold EIn cutG
  constructor
  · rintro ⟨x, hx, rfl, hc⟩
    obtain ⟨y, hy, rfl⟩ := List.mem_map.mp hx
    obtain ⟨c1, c2⟩ := List.mem_filter.mp hc
    exact ⟨⟨y, hy, rfl, c1⟩, c2⟩
  · rintro ⟨⟨x, hx, rfl, hc⟩, ht⟩
    exact ⟨_, List.mem_map.mpr ⟨x, hx, rfl⟩, rfl, List.mem_filter.mpr ⟨hc, ht⟩⟩
theorem ein_all {p : PV} {v : SV} {c : ChM} : EIn (allG p) v c ↔ v ∈ keysM p ∧ c ∈ choM p v := by
  unfold EIn allG
  constructor
  · rintro ⟨x, hx, rfl, hc⟩
    obtain ⟨y, hy, rfl⟩ := List.mem_map.mp hx
    exact ⟨hy, hc⟩
  · rintro ⟨h1, h2⟩
    exact ⟨_, List.mem_map.mpr ⟨v, h1, rfl⟩, rfl, h2⟩
def closeP (p : PV) (i most : Int) (v : SV) (c : ChM) : Bool := closeB i most (goneM p v c)
def closeG (p : PV) (i most : Int) : GM := cutG (closeP p i most) (allG p)
end Pf

set_option Elab.async false
set_option linter.all false
set_option maxRecDepth 100000
set_option maxHeartbeats 4000000
namespace Pf
open PySem L2 DL DL.Ev
/-! the way from one stand to another one -/
def inGr (p : PV) (g : GM) : SV → RunM → Prop
  | _, [] => True
  | v, c :: r => EIn g v c ∧ inGr p g (tkM p v c) r
theorem inGr_snoc {p : PV} {g : GM} : ∀ {r : RunM} {v : SV} {c : ChM}, inGr p g v r → EIn g (endM p v r) c → inGr p g v (r ++ [c])
  | [], _, _, _, h => ⟨h, trivial⟩
  | _ :: r, _, _, h, k => ⟨h.1, inGr_snoc (r := r) h.2 k⟩
structure WI (p : PV) (g : GM) (b : SV) (fs : WL) (k : Nat) : Prop where
  nd : (fs.map (·.1)).Nodup
  hd : fs[0]? = some (b, [])
  run : ∀ x ∈ fs, inGr p g b x.2 ∧ endM p b x.2 = x.1
  len : ∀ (i : Nat) x, fs[i]? = some x → x.2.length ≤ i
  cl : ∀ (i : Nat), i < k → ∀ x, fs[i]? = some x → ∀ c, EIn g x.1 c → tkM p x.1 c ∈ fs.map (·.1)
  vs : ∀ x ∈ fs, x.1 ∈ vsM g
  le : k ≤ fs.length
section
variable {p : PV} {g : GM} {b : SV} {fs : WL} {k : Nat}
theorem WI.few (hp : p.ok) (h : GOk p g) (w : WI p g b fs k) : fs.length < 16700000 := by
  have := few_keys hp w.nd fun v hv => by
    obtain ⟨x, hx, rfl⟩ := List.mem_map.mp hv
    obtain ⟨y, hy, e⟩ := List.mem_map.mp (w.vs x hx)
    rw [← e]
    exact h.ks y hy
  simpa using this
theorem WI.first (hb : b ∈ vsM g) : WI p g b [(b, [])] 0 := by
  refine ⟨by simp, rfl, fun x hx => ?_, fun i x hx => ?_, fun i hi => absurd hi (Nat.not_lt_zero _), fun x hx => ?_, Nat.zero_le _⟩
  · rw [List.mem_singleton] at hx
    subst hx
    exact ⟨trivial, rfl⟩
  · cases i with
    | zero => cases hx; exact Nat.le_refl _
    | succ i => simp at hx
  · rw [List.mem_singleton] at hx
    subst hx
    exact hb
theorem WI.add (hc : ClosedG p g) (w : WI p g b fs k) {x : SV × RunM} (hx : fs[k]? = some x) {c : ChM} (he : EIn g x.1 c) : WI p g b (addM p x.1 x.2 fs c) k ∧ (addM p x.1 x.2 fs c)[k]? = some x ∧ tkM p x.1 c ∈ (addM p x.1 x.2 fs c).map (·.1) ∧ ∀ y ∈ fs, y ∈ addM p x.1 x.2 fs c := by
  have hxm : x ∈ fs := List.mem_of_getElem? hx
  unfold addM
  by_cases hm : tickM p x.1 c.1 c.2 ∈ fs.map (·.1)
  · rw [if_pos hm]
    exact ⟨w, hx, hm, fun _ z => z⟩
  · rw [if_neg hm]
    obtain ⟨r1, r2⟩ := w.run x hxm
    have hk : k < fs.length := (List.getElem?_eq_some_iff.mp hx).1
    have hl := w.len k x hx
    refine ⟨⟨?_, get_app_l w.hd, fun y hy => ?_, fun i y hy => ?_, fun i hi y hy c' hc' => ?_, fun y hy => ?_, ?_⟩, get_app_l hx, by simp, fun y hy => List.mem_append_left _ hy⟩
    · rw [List.map_append, List.nodup_append]
      refine ⟨w.nd, by simp, fun a ha b hb => ?_⟩
      simp only [List.map_cons, List.map_nil, List.mem_singleton] at hb
      subst hb
      exact fun z => hm (z ▸ ha)
    · rcases List.mem_append.mp hy with hy | hy
      · exact w.run y hy
      · rw [List.mem_singleton] at hy
        subst hy
        refine ⟨inGr_snoc r1 (by rw [r2]; exact he), ?_⟩
        rw [endM_snoc, r2]
    · rcases get_app hy with hy | ⟨rfl, rfl⟩
      · exact w.len i y hy
      · simp; omega
    · rcases get_app hy with hy | ⟨rfl, rfl⟩
      · have := w.cl i hi y hy c' hc'
        rw [List.map_append]
        exact List.mem_append_left _ this
      · omega
    · rcases List.mem_append.mp hy with hy | hy
      · exact w.vs y hy
      · rw [List.mem_singleton] at hy
        subst hy
        exact hc _ _ he
    · have := w.le
      simp
      omega
end
theorem nd_inj : ∀ {g : GM}, (vsM g).Nodup → ∀ {x y : SV × List ChM}, x ∈ g → y ∈ g → x.1 = y.1 → x = y
  | [], _, _, _, hx, _, _ => nomatch hx
  | z :: g, nd, x, y, hx, hy, e => by
    unfold vsM at nd
    rw [List.map_cons, List.nodup_cons] at nd
    rcases List.mem_cons.mp hx with q | hx'
    · rcases List.mem_cons.mp hy with q' | hy'
      · rw [q, q']
      · exact absurd (List.mem_map.mpr ⟨y, hy', by rw [← e, q]⟩) nd.1
    · rcases List.mem_cons.mp hy with q' | hy'
      · exact absurd (List.mem_map.mpr ⟨x, hx', by rw [e, q']⟩) nd.1
      · exact nd_inj nd.2 hx' hy' e
noncomputable def wbT : FT := andT (vT (binD ltG (xV 5) (vD (callD lenG (aC (xV 4) aN))))) (vT (binD ninG (xV 2) (xV 3)))
def wbI : FS := (ifS (vT (binD ninG (xV 8) (xV 3))) (sqS (stN 3 (binD addG (vD (binD ixG (xV 3) (xV 6))) (vD (tupD (aC (xV 7) aN)))) (xD 8))
    (exS (vD (appD 4 (xD 8))))) skS)
noncomputable def wbB : FS := (sqS (asS (binD ixG (xV 4) (xV 5)) (gN 6))
    (sqS (asS (binD addG (xV 5) (vD (kD (.int 1)))) (gN 5))
    (frS (seqI (binD ixG (xV 0) (xV 6))) (gT 4 (gsC (gN 7) (gsC (gN 8) (gsC (gN 9) (gsC (gN 10) gsN))))) wbI)))
def wbE (p : PV) (g : GM) (b goal : SV) (fs : WL) (k : Nat) (c6 c7 c8 c9 c10 : Cell) : En := [.dat (.dict (gD p g)), .dat b.d, .dat goal.d, .own (.dict (svD runD fs)), .own (.list (fs.map fun x => x.1.d)), .dat (.int k), c6, c7, c8, c9, c10]
theorem wb_inner {p : PV} (hp : p.ok) {g : GM} (h : GOk p g) {b goal : SV} {fs : WL} {k kk : Nat} (w : WI p g b fs k) {x : SV × RunM} (hx : x ∈ fs) {c : ChM} (hc : EIn g x.1 c) {c9 c10 : Cell} :
    wbI (wbE p g b goal fs kk (.dat x.1.d) (.dat (prD c)) (.dat (tkM p x.1 c).d) c9 c10) = some (.nx (wbE p g b goal (addM p x.1 x.2 fs c) kk (.dat x.1.d) (.dat (prD c)) (.dat (tkM p x.1 c).d) c9 c10)) := by
  have size : sizeLine = 16777216 := rfl
  have few := w.few hp h
  have hg := getN_at (f := runD) w.nd hx
  have hm := getN_some (f := runD) (v := tkM p x.1 c) (fs := fs)
  have hl : x.2.length ≤ fs.length := by
    obtain ⟨i, hi⟩ := List.mem_iff_getElem?.mp hx
    have := w.len i x hi
    have := (List.getElem?_eq_some_iff.mp hi).1
    omega
  have z2 : fs.length < 16777216 := by omega
  have z3 : x.2.length ≤ 16777215 := by omega
  have ok := ok_sv (tkM p x.1 c)
  have okx := ok_sv x.1
  have tt := tup_sv (tkM p x.1 c)
  have ixx : ixG (.dict (svD runD fs)) x.1.d = some (runD x.2) := by rw [ix_dn (tup_sv x.1), if_pos ⟨keysN_sv, okx⟩]; exact hg
  unfold wbE addM
  have kn := keysN_sv (f := runD) (fs := fs)
  have ln := sv_len (f := runD) (fs := fs)
  have pn := put_new (f := runD) (v := tkM p x.1 c) (a := x.2 ++ [c]) (fs := fs)
  have mm : (fs ++ [(tkM p x.1 c, x.2 ++ [c])]).map (fun y => y.1.d) = fs.map (fun y => y.1.d) ++ [(tkM p x.1 c).d] := by simp
  have rr : runD (x.2 ++ [c]) = .tuple (x.2.map prD ++ [prD c]) := by simp [runD]
  rw [rr] at pn
  have rx : runD x.2 = .tuple (x.2.map prD) := rfl
  rw [rx] at ixx
  by_cases hmem : tkM p x.1 c ∈ fs.map (·.1)
  · rw [if_pos hmem]
    rw [decide_eq_true hmem] at hm
    generalize (tkM p x.1 c).d = t at *
    generalize x.1.d = v at *
    generalize prD c = pc at *
    generalize svD runD fs = W at *
    simp [wbI, kn, ok, tt, hm]
  · rw [if_neg hmem]
    rw [decide_eq_false hmem] at hm
    have pn := pn hmem
    rw [mm, ← pn]
    generalize (tkM p x.1 c).d = t at *
    generalize x.1.d = v at *
    generalize prD c = pc at *
    generalize svD runD fs = W at *
    simp [wbI, kn, ok, tt, hm, ixx, size, ln, z2, z3]
theorem wb_body {p : PV} (hp : p.ok) {g : GM} (h : GOk p g) (hc : ClosedG p g) {b goal : SV} {fs : WL} {k : Nat} (w : WI p g b fs k) {x : SV × RunM} (hx : fs[k]? = some x) {c6 c7 c8 c9 c10 : Cell} :
    ∃ fs' c6' c7' c8' c9' c10', wbB (wbE p g b goal fs k c6 c7 c8 c9 c10) = some (.nx (wbE p g b goal fs' (k + 1) c6' c7' c8' c9' c10')) ∧ WI p g b fs' (k + 1) := by
  have hxm := List.mem_of_getElem? hx
  obtain ⟨y, hy, ey⟩ := List.mem_map.mp (w.vs x hxm)
  obtain ⟨e', h1, fs', dn, c7', c8', c9', c10', rfl, h2, h3, h4, h5⟩ := for_rel (g := gT 4 (gsC (gN 7) (gsC (gN 8) (gsC (gN 9) (gsC (gN 10) gsN))))) (b := wbI) (edgD p y.1)
    (fun cs e => ∃ (fs' : WL) (dn : List ChM) (c7 c8 c9 c10 : Cell), e = wbE p g b goal fs' (k + 1) (.dat x.1.d) c7 c8 c9 c10 ∧ dn ++ cs = y.2 ∧ WI p g b fs' k ∧ fs'[k]? = some x ∧ ∀ c ∈ dn, tkM p x.1 c ∈ fs'.map (·.1))
    (xs := y.2) (e := wbE p g b goal fs (k + 1) (.dat x.1.d) c7 c8 c9 c10) ⟨fs, [], c7, c8, c9, c10, rfl, rfl, w, hx, by simp⟩ (by
    rintro c cs e ⟨fs', dn, c7, c8, c9, c10, rfl, h2, h3, h4, h5⟩
    have hcm : c ∈ y.2 := by rw [← h2]; simp
    have he : EIn g x.1 c := ⟨y, hy, ey, hcm⟩
    obtain ⟨a1, a2, a3, a4⟩ := h3.add hc h4 he
    refine ⟨wbE p g b goal fs' (k + 1) (.dat x.1.d) (.dat (prD c)) (.dat (tkM p x.1 c).d) (.dat (.tuple ((goneM p y.1 c).map evD))) (.dat (.tuple ((cameM p y.1 c).map evD))), _, by rw [← ey]; simp [edgD, wbE], wb_inner hp h h3 (List.mem_of_getElem? h4) he, _, dn ++ [c], _, _, _, _, rfl, by simpa using h2, a1, a2, fun c' hc' => ?_⟩
    rcases List.mem_append.mp hc' with z | z
    · obtain ⟨q, q1, q2⟩ := List.mem_map.mp (h5 c' z)
      exact List.mem_map.mpr ⟨q, a4 q q1, q2⟩
    · rw [List.mem_singleton] at z
      subst z
      exact a3)
  rw [List.append_nil] at h2
  subst h2
  have hk := (List.getElem?_eq_some_iff.mp h4).1
  refine ⟨fs', .dat x.1.d, c7', c8', c9', c10', ?_, h3.nd, h3.hd, h3.run, h3.len, fun i hi z hz c hcz => ?_, h3.vs, hk⟩
  · have hg : (fs.map fun y => y.1.d)[k]? = some x.1.d := by rw [List.getElem?_map, hx]; rfl
    have at0 := gD_at (p := p) h.nd hy
    rw [ey] at at0
    have kn := gD_keys (p := p) (g := g)
    have ix : ixG (.dict (gD p g)) x.1.d = some (rowD p y) := by rw [ix_dn (tup_sv x.1), if_pos ⟨kn, ok_sv x.1⟩]; exact at0
    have sq : seqD (rowD p y) = some (y.2.map (edgD p y.1)) := rfl
    unfold wbE at *
    rw [← h1]
    unfold wbB
    generalize wbI = B at *
    generalize svD runD fs = W at *
    generalize (fs.map fun y => y.1.d) = L at *
    generalize rowD p y = R at *
    generalize gD p g = G at *
    generalize x.1.d = v at *
    simp [hg, ix, sq]
  · by_cases hik : i < k
    · exact h3.cl i hik z hz c hcz
    · have : i = k := by omega
      subst this
      rw [h4] at hz
      cases hz
      refine h5 c ?_
      obtain ⟨q, q1, q2, q3⟩ := hcz
      have : q = y := by
        exact nd_inj h.nd q1 hy (q2.trans ey.symm)
      rw [← this]
      exact q3
theorem wb_while {p : PV} (hp : p.ok) {g : GM} (h : GOk p g) (hc : ClosedG p g) {b goal : SV} : ∀ {n : Nat} {fs : WL} {k : Nat} {c6 c7 c8 c9 c10 : Cell}, WI p g b fs k → 16700000 ≤ n + k →
    ∃ m fs' k' c6' c7' c8' c9' c10', whN wbT wbB m (wbE p g b goal fs k c6 c7 c8 c9 c10) = some (.nx (wbE p g b goal fs' k' c6' c7' c8' c9' c10')) ∧ WI p g b fs' k' ∧ (goal ∈ fs'.map (·.1) ∨ k' = fs'.length)
  | 0, fs, k, _, _, _, _, _, w, hn => by
    have a := w.few hp h
    have b := w.le
    omega
  | n + 1, fs, k, c6, c7, c8, c9, c10, w, hn => by
    have tst : ∀ b1 b2, decide (k < fs.length) = b1 → decide (goal ∈ fs.map (·.1)) = b2 → wbT (wbE p g b goal fs k c6 c7 c8 c9 c10) = some (b1 && !b2, wbE p g b goal fs k c6 c7 c8 c9 c10) := fun b1 b2 h1 h2 => by
      unfold wbE
      have e1 : decide ((k : Int) < ((fs.map fun y => y.1.d).length : Int)) = b1 := by rw [← h1]; simp
      have hm := getN_some (f := runD) (v := goal) (fs := fs)
      rw [h2] at hm
      have kn := keysN_sv (f := runD) (fs := fs)
      have ok := ok_sv goal
      have tt := tup_sv goal
      generalize svD runD fs = W at *
      generalize (fs.map fun y => y.1.d) = L at *
      generalize goal.d = gd at *
      simp only [decide_eq_decide, Int.ofNat_lt] at e1
      cases b1
      · have : ¬ k < L.length := by simpa using e1
        simp [wbT, this]
      · have : k < L.length := by simpa using e1
        simp [wbT, this, kn, ok, tt, hm]
    by_cases hk : k < fs.length
    · by_cases hg : goal ∈ fs.map (·.1)
      · exact ⟨1, fs, k, c6, c7, c8, c9, c10, wh_done (by rw [tst true true (decide_eq_true hk) (decide_eq_true hg)]; rfl), w, .inl hg⟩
      · obtain ⟨fs', d6, d7, d8, d9, d10, b1, b2⟩ := wb_body (goal := goal) hp h hc w (List.getElem?_eq_getElem hk) (c6 := c6) (c7 := c7) (c8 := c8) (c9 := c9) (c10 := c10)
        obtain ⟨m, fs'', k', c6', c7', c8', c9', c10', w1, w2, w3⟩ := wb_while hp h hc (n := n) (c6 := d6) (c7 := d7) (c8 := d8) (c9 := d9) (c10 := d10) b2 (by omega)
        exact ⟨m + 1, fs'', k', c6', c7', c8', c9', c10', wh_turn (by rw [tst true false (decide_eq_true hk) (decide_eq_false hg)]; rfl) b1 w1, w2, w3⟩
    · have hl := w.le
      exact ⟨1, fs, k, c6, c7, c8, c9, c10, wh_done (by rw [tst false (decide (goal ∈ fs.map (·.1))) (decide_eq_false hk) rfl]; rfl), w, .inr (by omega)⟩
end Pf

set_option Elab.async false
set_option linter.all false
set_option maxRecDepth 100000
set_option maxHeartbeats 4000000
namespace Pf
open PySem L2 DL DL.Ev
theorem run_len {p : PV} (hp : p.ok) {x : SV × RunM} (hx : x ∈ waysM p) : x.2.length < 16700000 := by
  have bi := ways_bi hp
  obtain ⟨i, hi⟩ := List.mem_iff_getElem?.mp hx
  have a := bi.len i x hi
  have b := (List.getElem?_eq_some_iff.mp hi).1
  have c := (bi.few hp).1
  omega
/-- the run that is told of a stand -/
def runAt (p : PV) (v : SV) : RunM := (((waysM p).find? fun x => decide (x.1 = v)).map (·.2)).getD []
theorem runAt_is {p : PV} (hp : p.ok) {x : SV × RunM} (hx : x ∈ waysM p) : runAt p x.1 = x.2 := by
  have nd := (ways_bi hp).nd
  unfold runAt
  have : ((waysM p).find? fun y => decide (y.1 = x.1)) = some x := by
    generalize waysM p = fs at *
    induction fs with
    | nil => cases hx
    | cons y fs ih =>
      rw [List.map_cons, List.nodup_cons] at nd
      rw [List.find?_cons]
      by_cases h : y.1 = x.1
      · rcases List.mem_cons.mp hx with rfl | hx
        · simp
        · exact absurd (h ▸ List.mem_map.mpr ⟨x, hx, rfl⟩) nd.1
      · rcases List.mem_cons.mp hx with rfl | hx
        · exact absurd rfl h
        · simp only [h, decide_false]
          exact ih hx nd.2
  rw [this]
  rfl
theorem way_at {p : PV} (hp : p.ok) {v : SV} (hv : v ∈ keysM p) : (v, runAt p v) ∈ waysM p := by
  obtain ⟨x, hx, rfl⟩ := List.mem_map.mp hv
  rw [runAt_is hp hx]
  exact hx
theorem ix_way {p : PV} (hp : p.ok) {v : SV} (hv : v ∈ keysM p) : ixG (.dict (svD runD (waysM p))) v.d = some (runD (runAt p v)) := by
  rw [ix_dn (tup_sv v), if_pos ⟨keysN_sv, ok_sv v⟩]
  exact getN_at (x := (v, runAt p v)) (ways_bi hp).nd (way_at hp hv)
/-! rings in which a carrier leaves -/
def goesB (i : Int) (ts : List EvM) : Bool := ts.any fun t => decide (t.1 = i)
def RingAt (p : PV) (g : GM) (i : Int) (v : SV) (c : ChM) (r : RunM) : Prop := EIn g v c ∧ goesB i (goneM p v c) = true ∧ inGr p g (tkM p v c) r ∧ endM p (tkM p v c) r = v
def ringD (p : PV) (v : SV) (c : ChM) (r : RunM) : Dt := .tuple [runD (runAt p v), runD (c :: r)]
theorem in_goes {i : Int} {ts : List EvM} : inG (.int i) (.list (ts.map fun t => PyData.int t.1)) = some (.bool (goesB i ts)) := by
  have h1 : (ts.map fun t => PyData.int t.1).all (okN 59) = true := by
    rw [List.all_map, List.all_eq_true]
    intro t _
    simp
  have h2 : ((ts.map fun t => PyData.int t.1).any fun z => PyData.eqv z (.int i)) = goesB i ts := by
    unfold goesB
    rw [List.any_map]
    refine congrArg (fun f => ts.any f) (funext fun t => ?_)
    simp
    rfl
  rw [in_l, if_pos ⟨by simp, by rw [ok_list]; exact h1⟩, h2]
end Pf

set_option Elab.async false
set_option linter.all false
set_option maxRecDepth 100000
set_option maxHeartbeats 4000000
namespace Pf
open PySem L2 DL DL.Ev
/-! dicts from stands to numbers, the keys fixed -/
def ivD (ks : List SV) (f : SV → Int) : List (Dt × Dt) := svD PyData.int (ks.map fun v => (v, f v))
def updF (f : SV → Int) (v : SV) (i : Int) : SV → Int := fun w => if w = v then i else f w
section
variable {ks : List SV} {f : SV → Int}
theorem iv_keys : keysN (ivD ks f) = true := keysN_sv
theorem iv_len : (ivD ks f).length = ks.length := by simp [ivD, svD]
theorem iv_map : (ks.map fun v => (v, f v)).map (·.1) = ks := by rw [List.map_map]; exact List.map_id' ks
theorem iv_at (nd : ks.Nodup) {v : SV} (hv : v ∈ ks) : ixG (.dict (ivD ks f)) v.d = some (.int (f v)) := by
  rw [ix_dn (tup_sv v), if_pos ⟨iv_keys, ok_sv v⟩]
  exact getN_at (f := PyData.int) (x := (v, f v)) (by rw [iv_map]; exact nd) (List.mem_map.mpr ⟨v, hv, rfl⟩)
theorem iv_put {v : SV} (hv : v ∈ ks) {i : Int} : putNd (ivD ks f) v.d (.int i) = ivD ks (updF f v i) := by
  unfold putNd
  have : (getNd (ivD ks f) v.d).isSome = true := by
    unfold ivD
    rw [getN_some, iv_map]
    simpa using hv
  rw [if_pos this]
  unfold ivD svD updF
  rw [List.map_map, List.map_map, List.map_map]
  refine List.map_congr_left fun w _ => ?_
  simp only [Function.comp_apply, tk_sv, Option.some.injEq]
  by_cases h : w = v
  · subst h; simp
  · have : ¬ svK w = svK v := fun z => h (svK_inj z)
    simp [h, this]
theorem iv_new {v : SV} (hv : v ∉ ks) {f : SV → Int} : putNd (ivD ks f) v.d (.int (f v)) = ivD (ks ++ [v]) f := by
  unfold ivD
  rw [put_new (f := PyData.int) (v := v) (a := f v) (by rw [iv_map]; exact hv)]
  simp
end
theorem zeros_e {p : PV} (hp : p.ok) {e : En} (h8 : e[8]? = some .un) (hl : e.length = 9) : dcL (gN 8) yesT (emN (xD 8) (kD (.int 0))) [8] ((keysM p).map SV.d) [] e = some (ivD (keysM p) (fun _ => 0), e) := by
  have size : sizeLine = 16777216 := rfl
  have few := few_keys hp (keys_nd hp) fun v h => h
  have hs : e.set 8 .un = e := by
    refine List.ext_getElem? fun i => ?_
    by_cases hi : 8 = i
    · subst hi; rw [List.getElem?_set, h8]; simp [hl]
    · rw [List.getElem?_set_ne hi]
  obtain ⟨ps', h1, done, rfl, h2⟩ := dcl_rel (g := gN 8) (t := yesT) (m := emN (xD 8) (kD (.int 0))) (us := [8]) SV.d (fun xs ps => ∃ done : List SV, ps = ivD done (fun _ => 0) ∧ done ++ xs = keysM p) (e := e) (xs := keysM p) (ps := []) ⟨[], rfl, rfl⟩ (by
    rintro v xs ps ⟨done, rfl, h2⟩
    have nd := keys_nd hp
    rw [← h2] at nd
    have hn : v ∉ done := fun z => (List.nodup_append.mp nd).2.2 v z v (by simp) rfl
    have ip := iv_new hn (f := fun _ => 0)
    have ok := ok_sv v
    have tt := tup_sv v
    have hz : (ivD done fun _ => 0).length < 16777216 := by
      rw [iv_len]
      have := congrArg List.length h2
      simp at this
      omega
    have g8 : (e.set 8 (.dat v.d))[8]? = some (.dat v.d) := by rw [List.getElem?_set]; simp [hl]
    refine ⟨e.set 8 (.dat v.d), rfl, .inr ⟨ivD (done ++ [v]) (fun _ => 0), e.set 8 (.dat v.d), rfl, ?_, by simp [noOwn, hl], by simp [wipeE, hs], done ++ [v], rfl, by simpa using h2⟩⟩
    rw [← ip]
    generalize ivD done (fun _ => 0) = W at *
    generalize e.set 8 (.dat v.d) = e2 at *
    generalize v.d = V at *
    simp [g8, ok, tt, hz, size])
  rw [List.append_nil] at h2
  rw [h2] at h1
  exact h1
/-! edges that lead to a stand, counted -/
abbrev tgE (p : PV) (e : SV × ChM) : SV := tkM p e.1 e.2
theorem count_split {α : Type} {a b c : α → Bool} (h : ∀ x, a x = (b x || c x)) (h' : ∀ x, ¬ (b x = true ∧ c x = true)) : ∀ l : List α, l.countP a = l.countP b + l.countP c
  | [] => rfl
  | x :: l => by
    have ih := count_split h h' l
    have hx := h x
    have hx' := h' x
    rw [List.countP_cons, List.countP_cons, List.countP_cons, ih, hx]
    cases hb : b x <;> cases hc : c x <;> simp [hb, hc] at hx' ⊢ <;> omega
theorem count_src {p : PV} {v : SV} {Q : SV × ChM → Bool} : ∀ {ks : List SV}, ks.Nodup → v ∈ ks → (ks.flatMap fun u => (choM p u).map fun c => (u, c)).countP (fun e => Q e && decide (e.1 = v)) = (choM p v).countP fun c => Q (v, c)
  | [], _, h => nomatch h
  | u :: ks, nd, h => by
    rw [List.flatMap_cons, List.countP_append, List.countP_map]
    obtain ⟨n1, n2⟩ := List.nodup_cons.mp nd
    by_cases e : u = v
    · subst e
      have z : (ks.flatMap fun w => (choM p w).map fun c => (w, c)).countP (fun e => Q e && decide (e.1 = u)) = 0 := by
        rw [List.countP_eq_zero]
        intro x hx
        obtain ⟨w, hw, hx⟩ := List.mem_flatMap.mp hx
        obtain ⟨c, _, rfl⟩ := List.mem_map.mp hx
        have : ¬ w = u := fun q => n1 (q ▸ hw)
        simp [this]
      rw [z, Nat.add_zero]
      refine congrArg (fun f => (choM p u).countP f) (funext fun c => ?_)
      simp
    · have z : (choM p u).countP ((fun e : SV × ChM => Q e && decide (e.1 = v)) ∘ fun c => (u, c)) = 0 := by
        rw [List.countP_eq_zero]
        intro c _
        simp [e]
      rw [z, Nat.zero_add]
      exact count_src n2 ((List.mem_cons.mp h).resolve_left fun q => e q.symm)
/-! the stands' times -/
def RelM (p : PV) (u v : SV) : Prop := ∃ c, (u, c) ∈ edgesM p ∧ tkM p u c = v
structure TOk (p : PV) (fs : List (SV × Int)) : Prop where
  nd : (fs.map (·.1)).Nodup
  ks : ∀ x ∈ fs, x.1 ∈ keysM p
  b0 : ∀ x ∈ fs, 0 ≤ x.2
  pr : ∀ x ∈ fs, ∀ e ∈ edgesM p, tgE p e = x.1 → ∃ s, (e.1, s) ∈ fs ∧ s + 1 ≤ x.2
  ex : ∀ x ∈ fs, x.2 = 0 ∨ ∃ e ∈ edgesM p, tgE p e = x.1 ∧ (e.1, x.2 - 1) ∈ fs
  cl : ∀ v ∈ keysM p, (∀ e ∈ edgesM p, tgE p e = v → e.1 ∈ fs.map (·.1)) → v ∈ fs.map (·.1)
  ac : ∀ x ∈ fs, Acc (RelM p) x.1
theorem fs_one {fs : List (SV × Int)} (nd : (fs.map (·.1)).Nodup) {v : SV} {a b : Int} (ha : (v, a) ∈ fs) (hb : (v, b) ∈ fs) : a = b := by
  induction fs with
  | nil => cases ha
  | cons x fs ih =>
    rw [List.map_cons, List.nodup_cons] at nd
    rcases List.mem_cons.mp ha with q | ha'
    · rcases List.mem_cons.mp hb with q' | hb'
      · rw [← q'] at q; cases q; rfl
      · exact absurd (List.mem_map.mpr ⟨_, hb', by rw [← q]⟩) nd.1
    · rcases List.mem_cons.mp hb with q' | hb'
      · exact absurd (List.mem_map.mpr ⟨_, ha', by rw [← q']⟩) nd.1
      · exact ih nd.2 ha' hb'
theorem fs_in {fs : List (SV × Int)} {v : SV} (h : v ∈ fs.map (·.1)) : ∃ t, (v, t) ∈ fs := by
  obtain ⟨x, hx, rfl⟩ := List.mem_map.mp h
  exact ⟨x.2, hx⟩
/-- there is one table of times -/
theorem times_uniq {p : PV} {f1 f2 : List (SV × Int)} (h1 : TOk p f1) (h2 : TOk p f2) : ∀ v, Acc (RelM p) v → ∀ t, (v, t) ∈ f1 → (v, t) ∈ f2 := by
  intro v ha
  induction ha with
  | intro v _ ih =>
    intro t ht
    have step : ∀ e ∈ edgesM p, tgE p e = v → ∃ s, (e.1, s) ∈ f1 ∧ (e.1, s) ∈ f2 ∧ s + 1 ≤ t := fun e he hv => by
      obtain ⟨s, s1, s2⟩ := h1.pr _ ht e he hv
      exact ⟨s, s1, ih e.1 ⟨e.2, he, hv⟩ s s1, s2⟩
    obtain ⟨t2, ht2⟩ := fs_in (h2.cl v (h1.ks _ ht) fun e he hv => by
      obtain ⟨s, _, s2, _⟩ := step e he hv
      exact List.mem_map.mpr ⟨_, s2, rfl⟩)
    have a : t ≤ t2 := by
      rcases h1.ex _ ht with z | ⟨e, he, hv, z⟩
      · have := h2.b0 _ ht2
        simp only at z this
        omega
      · obtain ⟨s, s1, s2, _⟩ := step e he hv
        obtain ⟨s', s3, s4⟩ := h2.pr _ ht2 e he hv
        have e1 := fs_one h1.nd z s1
        have e2 := fs_one h2.nd s2 s3
        simp only at e1 s4
        omega
    have b : t2 ≤ t := by
      rcases h2.ex _ ht2 with z | ⟨e, he, hv, z⟩
      · have := h1.b0 _ ht
        simp only at z this
        omega
      · obtain ⟨s, s1, s2, s3⟩ := step e he hv
        have e2 := fs_one h2.nd z s2
        simp only at e2
        omega
    have : t = t2 := by omega
    rw [this]
    exact ht2
def lookT (fs : List (SV × Int)) (v : SV) : Option Int := (fs.find? fun x => decide (x.1 = v)).map (·.2)
theorem look_some {fs : List (SV × Int)} (nd : (fs.map (·.1)).Nodup) {v : SV} {t : Int} : lookT fs v = some t ↔ (v, t) ∈ fs := by
  unfold lookT
  constructor
  · intro h
    obtain ⟨x, h1, h2⟩ := Option.map_eq_some_iff.mp h
    have a := List.find?_some h1
    have b := List.mem_of_find?_eq_some h1
    simp only [decide_eq_true_eq] at a
    subst h2
    rw [← a]
    exact b
  · intro h
    induction fs with
    | nil => cases h
    | cons x fs ih =>
      rw [List.map_cons, List.nodup_cons] at nd
      rw [List.find?_cons]
      by_cases e : x.1 = v
      · rcases List.mem_cons.mp h with q | h'
        · rw [← q]; simp
        · exact absurd (List.mem_map.mpr ⟨_, h', e.symm⟩) nd.1
      · rcases List.mem_cons.mp h with q | h'
        · exact absurd (by rw [← q]) e
        · simp only [e, decide_false]
          exact ih nd.2 h'
theorem look_uniq {p : PV} {f1 f2 : List (SV × Int)} (h1 : TOk p f1) (h2 : TOk p f2) (v : SV) : lookT f1 v = lookT f2 v := by
  cases a : lookT f1 v with
  | some t =>
    have := (look_some h1.nd).mp a
    exact ((look_some h2.nd).mpr (times_uniq h1 h2 v (h1.ac _ this) t this)).symm
  | none =>
    cases b : lookT f2 v with
    | none => rfl
    | some t =>
      have := (look_some h2.nd).mp b
      rw [(look_some h1.nd).mpr (times_uniq h2 h1 v (h2.ac _ this) t this)] at a
      cases a
end Pf

set_option Elab.async false
set_option linter.all false
set_option maxRecDepth 100000
set_option maxHeartbeats 4000000
namespace Pf
open PySem L2 DL DL.Ev
/-! the program's table of times -/
structure TS (p : PV) (fs : List (SV × Int)) (rs : List ChM) (v0 : SV) (mi fo : SV → Int) (wt : List SV) : Prop where
  nd : (fs.map (·.1)).Nodup
  ks : ∀ x ∈ fs, x.1 ∈ keysM p
  fv : ∀ x ∈ fs, x.2 = fo x.1
  mc : ∀ w ∈ keysM p, mi w = (((edgesM p).countP fun e => decide (tgE p e = w) && decide (e.1 ∉ fs.map (·.1))) + (rs.countP fun c => decide (tkM p v0 c = w)) : Nat)
  wnd : wt.Nodup
  wk : ∀ w, w ∈ wt ↔ w ∈ keysM p ∧ w ∉ fs.map (·.1) ∧ mi w = 0
  f0 : ∀ w ∈ keysM p, 0 ≤ fo w
  fe : ∀ w ∈ keysM p, fo w = 0 ∨ ∃ e ∈ edgesM p, tgE p e = w ∧ (e.1, fo w - 1) ∈ fs
  fm : ∀ e ∈ edgesM p, ∀ t, (e.1, t) ∈ fs → (e.1 = v0 → e.2 ∉ rs) → t + 1 ≤ fo (tgE p e)
  pr : ∀ x ∈ fs, ∀ e ∈ edgesM p, tgE p e = x.1 → e.1 ∈ fs.map (·.1)
  ac : ∀ x ∈ fs, Acc (RelM p) x.1
section
variable {p : PV} {fs : List (SV × Int)} {mi fo : SV → Int} {wt : List SV} {v : SV}
/-- a stand that is ready -/
theorem TS.pop (hp : p.ok) {v0 : SV} (h : TS p fs [] v0 mi fo (wt ++ [v])) : TS p (fs ++ [(v, fo v)]) (choM p v) v mi fo wt ∧ v ∉ fs.map (·.1) ∧ v ∈ keysM p ∧ ∀ c ∈ choM p v, tkM p v c ∉ (fs ++ [(v, fo v)]).map (·.1) := by
  obtain ⟨hv, hn, hz⟩ := (h.wk v).mp (by simp)
  have hall : ∀ e ∈ edgesM p, tgE p e = v → e.1 ∈ fs.map (·.1) := fun e he ht => by
    have m := h.mc v hv
    rw [hz] at m
    have m0 : (edgesM p).countP (fun e => decide (tgE p e = v) && decide (e.1 ∉ fs.map (·.1))) = 0 := by
      simp only [List.countP_nil, Nat.add_zero] at m
      omega
    have := List.countP_eq_zero.mp m0 e he
    simp only [ht, decide_true, Bool.true_and, decide_eq_true_eq, Decidable.not_not] at this
    exact this
  have hm : (fs ++ [(v, fo v)]).map (·.1) = fs.map (·.1) ++ [v] := by simp
  have tgn : ∀ c ∈ choM p v, tkM p v c ∉ (fs ++ [(v, fo v)]).map (·.1) := fun c hc z => by
    have he : (v, c) ∈ edgesM p := edges_mem.mpr ⟨hv, hc⟩
    rw [hm] at z
    rcases List.mem_append.mp z with z | z
    · obtain ⟨t, ht⟩ := fs_in z
      exact hn (h.pr _ ht (v, c) he rfl)
    · rw [List.mem_singleton] at z
      exact hn (hall (v, c) he z)
  have wnd := List.nodup_append.mp h.wnd
  refine ⟨⟨?_, fun x hx => ?_, fun x hx => ?_, fun w hw => ?_, wnd.1, fun w => ?_, h.f0, fun w hw => ?_, fun e he t ht hr => ?_, fun x hx e he ht => ?_, fun x hx => ?_⟩, hn, hv, tgn⟩
  · rw [hm, List.nodup_append]
    exact ⟨h.nd, by simp, fun a ha b hb => by rw [List.mem_singleton] at hb; subst hb; exact fun z => hn (z ▸ ha)⟩
  · rcases List.mem_append.mp hx with hx | hx
    · exact h.ks x hx
    · rw [List.mem_singleton] at hx; subst hx; exact hv
  · rcases List.mem_append.mp hx with hx | hx
    · exact h.fv x hx
    · rw [List.mem_singleton] at hx; subst hx; rfl
  · rw [h.mc w hw]
    simp only [List.countP_nil, Nat.add_zero]
    have e1 : (edgesM p).countP (fun e => decide (tgE p e = w) && decide (e.1 ∉ fs.map (·.1))) = (edgesM p).countP (fun e => decide (tgE p e = w) && decide (e.1 ∉ (fs ++ [(v, fo v)]).map (·.1))) + (edgesM p).countP (fun e => decide (tgE p e = w) && decide (e.1 = v)) := by
      refine count_split (fun e => ?_) (fun e => ?_) _
      · rw [hm]
        by_cases q : e.1 = v
        · rw [q]; simp [hn]
        · have : decide (e.1 ∉ fs.map (·.1)) = decide (e.1 ∉ fs.map (·.1) ++ [v]) := by
            rw [decide_eq_decide, List.mem_append, List.mem_singleton]
            exact not_congr ⟨.inl, fun z => z.resolve_right q⟩
          rw [this]
          simp [q]
      · rw [hm]
        intro ⟨a, b⟩
        simp only [Bool.and_eq_true, decide_eq_true_eq] at a b
        exact a.2 (by rw [b.2]; simp)
    have e2 : (edgesM p).countP (fun e => decide (tgE p e = w) && decide (e.1 = v)) = (choM p v).countP fun c => decide (tkM p v c = w) := count_src (Q := fun e => decide (tgE p e = w)) (keys_nd hp) hv
    rw [e1, e2]
  · rw [hm]
    constructor
    · intro hw
      have a := (h.wk w).mp (by simp [hw])
      refine ⟨a.1, fun z => ?_, a.2.2⟩
      rcases List.mem_append.mp z with z | z
      · exact a.2.1 z
      · rw [List.mem_singleton] at z
        exact wnd.2.2 w hw v (by simp) z
    · rintro ⟨a, b, c⟩
      have := (h.wk w).mpr ⟨a, fun z => b (by simp [z]), c⟩
      rcases List.mem_append.mp this with z | z
      · exact z
      · rw [List.mem_singleton] at z
        exact absurd (by simp [z]) b
  · rcases h.fe w hw with z | ⟨e, e1, e2, e3⟩
    · exact .inl z
    · exact .inr ⟨e, e1, e2, List.mem_append_left _ e3⟩
  · rcases List.mem_append.mp ht with z | z
    · exact h.fm e he t z (fun _ => by simp)
    · rw [List.mem_singleton] at z
      have : e.1 = v := by cases z; rfl
      refine absurd ?_ (hr this)
      rw [← this]
      exact (edges_mem.mp he).2
  · rw [hm]
    rcases List.mem_append.mp hx with z | z
    · exact List.mem_append_left _ (h.pr x z e he ht)
    · rw [List.mem_singleton] at z
      subst z
      exact List.mem_append_left _ (hall e he ht)
  · rcases List.mem_append.mp hx with z | z
    · exact h.ac x z
    · rw [List.mem_singleton] at z
      subst z
      refine Acc.intro _ fun u hu => ?_
      obtain ⟨c, hc, e⟩ := hu
      obtain ⟨t, ht⟩ := fs_in (hall (u, c) hc e)
      exact h.ac _ ht
/-- one edge of it -/
theorem TS.edge (hp : p.ok) {c : ChM} {cs : List ChM} (h : TS p fs (c :: cs) v mi fo wt) (nd : (c :: cs).Nodup) (hv : v ∈ keysM p) (hc : c ∈ choM p v) (hvf : (v, fo v) ∈ fs) (hn : tkM p v c ∉ fs.map (·.1)) :
    TS p fs cs v (updF mi (tkM p v c) (mi (tkM p v c) - 1)) (updF fo (tkM p v c) (if fo v + 1 > fo (tkM p v c) then fo v + 1 else fo (tkM p v c))) (if mi (tkM p v c) - 1 = 0 then wt ++ [tkM p v c] else wt) ∧ 1 ≤ mi (tkM p v c) := by
  have hw := keys_closed hp v hv c hc
  have he : (v, c) ∈ edgesM p := edges_mem.mpr ⟨hv, hc⟩
  have m1 : 1 ≤ mi (tkM p v c) := by
    rw [h.mc _ hw, List.countP_cons]
    simp only [decide_true, if_true]
    omega
  have nw : tkM p v c ∉ wt := fun z => by
    have := ((h.wk _).mp z).2.2
    omega
  have fo_le : ∀ w, fo w ≤ updF fo (tkM p v c) (if fo v + 1 > fo (tkM p v c) then fo v + 1 else fo (tkM p v c)) w := fun w => by
    unfold updF
    split
    · rename_i q; subst q; split <;> omega
    · exact Int.le_refl _
  have hvs := h.fv _ hvf
  refine ⟨⟨h.nd, h.ks, fun x hx => ?_, fun w hw' => ?_, ?_, fun w => ?_, fun w hw' => Int.le_trans (h.f0 w hw') (fo_le w), fun w hw' => ?_, fun e he' t ht hr => ?_, h.pr, h.ac⟩, m1⟩
  · have : x.1 ≠ tkM p v c := fun q => hn (q ▸ List.mem_map.mpr ⟨x, hx, rfl⟩)
    unfold updF
    rw [if_neg this]
    exact h.fv x hx
  · unfold updF
    have m := h.mc w hw'
    rw [List.countP_cons] at m
    by_cases q : w = tkM p v c
    · rw [if_pos q]
      rw [q] at m ⊢
      simp only [decide_true, if_true] at m
      omega
    · rw [if_neg q]
      have q' : ¬ tkM p v c = w := fun z => q z.symm
      simp only [q', decide_false, Bool.false_eq_true, if_false, Nat.add_zero] at m
      exact m
  · split
    · rw [List.nodup_append]
      exact ⟨h.wnd, by simp, fun a ha b hb => by rw [List.mem_singleton] at hb; subst hb; exact fun z => nw (z ▸ ha)⟩
    · exact h.wnd
  · have key : w ∈ (if mi (tkM p v c) - 1 = 0 then wt ++ [tkM p v c] else wt) ↔ w ∈ wt ∨ (w = tkM p v c ∧ mi (tkM p v c) - 1 = 0) := by
      split <;> rename_i q <;> simp [q]
    rw [key, h.wk]
    unfold updF
    constructor
    · rintro (⟨a, b, d⟩ | ⟨rfl, z⟩)
      · refine ⟨a, b, ?_⟩
        have : w ≠ tkM p v c := fun q => by rw [q] at d; omega
        rw [if_neg this]
        exact d
      · exact ⟨hw, hn, by rw [if_pos rfl]; exact z⟩
    · rintro ⟨a, b, d⟩
      by_cases q : w = tkM p v c
      · rw [if_pos q] at d
        exact .inr ⟨q, d⟩
      · rw [if_neg q] at d
        exact .inl ⟨a, b, d⟩
  · unfold updF
    by_cases q : w = tkM p v c
    · rw [if_pos q]
      split
      · exact .inr ⟨(v, c), he, q.symm, by rw [show fo v + 1 - 1 = fo v by omega]; exact hvf⟩
      · rw [← q]
        exact h.fe w hw'
    · rw [if_neg q]
      exact h.fe w hw'
  · by_cases q : e.1 = v ∧ e.2 = c
    · have e1 : e = (v, c) := Prod.ext q.1 q.2
      have : t = fo v := by
        rw [q.1] at ht
        exact fs_one h.nd ht hvf
      rw [e1, this]
      show fo v + 1 ≤ updF fo (tkM p v c) _ (tkM p v c)
      unfold updF
      rw [if_pos rfl]
      split <;> omega
    · refine Int.le_trans (h.fm e he' t ht fun z => ?_) (fo_le _)
      intro m
      rcases List.mem_cons.mp m with m | m
      · exact q ⟨z, m⟩
      · exact hr z m
/-- nothing is ready any more -/
theorem TS.done {v0 : SV} (h : TS p fs [] v0 mi fo []) : TOk p fs := by
  refine ⟨h.nd, h.ks, fun x hx => ?_, fun x hx e he ht => ?_, fun x hx => ?_, fun v hv hall => ?_, h.ac⟩
  · rw [h.fv x hx]; exact h.f0 _ (h.ks x hx)
  · obtain ⟨t, t1⟩ := fs_in (h.pr x hx e he ht)
    refine ⟨t, t1, ?_⟩
    rw [h.fv x hx, ← ht]
    exact h.fm e he t t1 fun _ => by simp
  · rw [h.fv x hx]; exact h.fe _ (h.ks x hx)
  · by_cases z : v ∈ fs.map (·.1)
    · exact z
    · have m := h.mc v hv
      have m0 : (edgesM p).countP (fun e => decide (tgE p e = v) && decide (e.1 ∉ fs.map (·.1))) = 0 := by
        rw [List.countP_eq_zero]
        intro e he
        simp only [Bool.and_eq_true, decide_eq_true_eq, not_and, Decidable.not_not]
        exact fun q => hall e he q
      rw [m0] at m
      simp at m
      exact absurd ((h.wk v).mpr ⟨hv, z, m⟩) (by simp)
end
end Pf

set_option Elab.async false
set_option linter.all false
set_option maxRecDepth 100000
set_option maxHeartbeats 4000000
namespace Pf
open PySem L2 DL DL.Ev
theorem opts_nd {p : PV} {x : PT} : (optsM p x).Nodup := by
  rcases opts_4 (p := p) (x := x) with h | h | h | h <;> rw [h] <;> simp
theorem cho_nd {p : PV} {v : SV} : (choM p v).Nodup := by
  unfold choM
  rcases opts_4 (p := p) (x := v.a) with h | h | h | h <;> rcases opts_4 (p := p) (x := v.b) with h' | h' | h' | h' <;> simp [h, h']
theorem ok_sv59 {v : SV} : okN 59 v.d = true := by
  have b : ∀ (ts : List (Option Int)) n, (ts.map oD).all (okN (n + 1)) = true := fun ts n => by
    rw [List.all_map, List.all_eq_true]
    intro t _
    exact ok_o _ _
  simp [SV.d, PT.d, b]
theorem svs_ne {wt : List SV} : neG (.list (wt.map SV.d)) (.list []) = some (.bool (decide (wt ≠ []))) := by
  have h : okD (.list (wt.map SV.d)) = true := by
    rw [ok_list, List.all_map, List.all_eq_true]
    intro v _
    exact ok_sv59
  rw [ne_g, if_pos ⟨h, by simp⟩]
  cases wt <;> simp [PyData.eqv]
theorem ey_k {p : PV} {L : List SV} : (eyD p L).map (fun x => x.1) = L.map SV.d := by simp [eyD, svD]
theorem ey_v {p : PV} {L : List SV} : (eyD p L).map (fun x => x.2) = L.map (rowM p) := by simp [eyD, svD]
theorem ey_keys {p : PV} {L : List SV} : keysN (eyD p L) = true := keysN_sv
theorem ey_at {p : PV} (hp : p.ok) {v : SV} (hv : v ∈ keysM p) : ixG (.dict (eyD p (keysM p))) v.d = some (rowM p v) := by
  rw [ix_dn (tup_sv v), if_pos ⟨ey_keys, ok_sv v⟩]
  exact getN_at (f := rowM p) (x := (v, v)) (by rw [List.map_map, show ((fun x : SV × SV => x.1) ∘ fun v => (v, v)) = id from rfl, List.map_id]; exact keys_nd hp) (List.mem_map.mpr ⟨v, hv, rfl⟩)
def tbI : FS := (sqS (stN 3 (callD maxG (aC (vD (binD ixG (xV 3) (vD (binD ixG (xV 5) (vD (kD (.int 1))))))) (aC (vD (binD addG (vD (binD ixG (xV 3) (xV 8))) (vD (kD (.int 1))))) aN))) (binD ixG (xV 5) (vD (kD (.int 1)))))
    (sqS (stN 2 (binD subG (vD (binD ixG (xV 2) (vD (binD ixG (xV 5) (vD (kD (.int 1))))))) (vD (kD (.int 1)))) (binD ixG (xV 5) (vD (kD (.int 1)))))
    (ifS (vT (binD eqG (vD (binD ixG (xV 2) (vD (binD ixG (xV 5) (vD (kD (.int 1))))))) (vD (kD (.int 0))))) (exS (vD (appD 6 (binD ixG (xV 5) (vD (kD (.int 1))))))) skS)))
def tbB : FS := (sqS (asS (popD 6) (gN 8))
    (sqS (stN 7 (binD ixG (xV 3) (xV 8)) (xD 8))
    (frS (seqI (binD ixG (xV 1) (xV 8))) (gN 5) tbI)))
def tbT : FT := vT (binD neG (xV 6) (vD (lstD aN)))
def tE (p : PV) (mi fo : SV → Int) (wt : List SV) (fs : List (SV × Int)) (c4 c5 c8 : Cell) : En := [.dat p.d, .dat (.dict (eyD p (keysM p))), .own (.dict (ivD (keysM p) mi)), .own (.dict (ivD (keysM p) fo)), c4, c5, .own (.list (wt.map SV.d)), .own (.dict (svD PyData.int fs)), c8]
theorem tb_inner {p : PV} (hp : p.ok) {mi fo : SV → Int} {wt : List SV} {fs : List (SV × Int)} {v : SV} {c : ChM} (hv : v ∈ keysM p) (hc : c ∈ choM p v) (hl : wt.length < 16777216) {c4 : Cell} :
    tbI (tE p mi fo wt fs c4 (.dat (edgD p v c)) (.dat v.d)) = some (.nx (tE p (updF mi (tkM p v c) (mi (tkM p v c) - 1)) (updF fo (tkM p v c) (if fo v + 1 > fo (tkM p v c) then fo v + 1 else fo (tkM p v c))) (if mi (tkM p v c) - 1 = 0 then wt ++ [tkM p v c] else wt) fs c4 (.dat (edgD p v c)) (.dat v.d))) := by
  have size : sizeLine = 16777216 := rfl
  have nd := keys_nd hp
  have hw := keys_closed hp v hv c hc
  have few := few_keys hp nd fun v h => h
  have i1 := iv_at (f := fo) nd hw
  have i2 := iv_at (f := fo) nd hv
  have i3 := iv_at (f := mi) nd hw
  have i4 := iv_at (f := updF mi (tkM p v c) (mi (tkM p v c) - 1)) nd hw
  have p1 := iv_put (f := fo) hw (i := if fo v + 1 > fo (tkM p v c) then fo v + 1 else fo (tkM p v c))
  have p2 := iv_put (f := mi) hw (i := mi (tkM p v c) - 1)
  have k1 := iv_keys (ks := keysM p) (f := fo)
  have k2 := iv_keys (ks := keysM p) (f := mi)
  have l1 : (ivD (keysM p) fo).length < 16777216 := by rw [iv_len]; omega
  have l2 : (ivD (keysM p) mi).length < 16777216 := by rw [iv_len]; omega
  have ix : ixG (edgD p v c) (.int 1) = some (tkM p v c).d := by simp [edgD]
  have ok := ok_sv (tkM p v c)
  have tt := tup_sv (tkM p v c)
  have u4 : updF mi (tkM p v c) (mi (tkM p v c) - 1) (tkM p v c) = mi (tkM p v c) - 1 := by simp [updF]
  rw [u4] at i4
  rw [← p2] at i4
  unfold tE
  have wm : (if mi (tkM p v c) - 1 = 0 then wt ++ [tkM p v c] else wt).map SV.d = if mi (tkM p v c) - 1 = 0 then wt.map SV.d ++ [(tkM p v c).d] else wt.map SV.d := by split <;> simp
  have hl' : (wt.map SV.d).length < 16777216 := by simpa using hl
  rw [wm, ← p1, ← p2]
  generalize fo v = a at *
  generalize fo (tkM p v c) = b at *
  generalize mi (tkM p v c) = m at *
  generalize ivD (keysM p) fo = FO at *
  generalize ivD (keysM p) mi = MI at *
  generalize wt.map SV.d = L at *
  generalize eyD p (keysM p) = E at *
  generalize edgD p v c = ED at *
  generalize svD PyData.int fs = W at *
  generalize (tkM p v c).d = T at *
  generalize v.d = V at *
  generalize p.d = P at *
  by_cases hz : m - 1 = 0
  · simp [tbI, ix, i1, i2, i3, i4, k1, k2, ok, tt, l1, l2, size, hz, hl']
    simp [hz] at i4
    simp [i4, hl', ix, size]
  · simp [tbI, ix, i1, i2, i3, i4, k1, k2, ok, tt, l1, l2, size, hz, hl']
theorem tb_body {p : PV} (hp : p.ok) {mi fo : SV → Int} {wt : List SV} {fs : List (SV × Int)} {v v0 : SV} (h : TS p fs [] v0 mi fo (wt ++ [v])) {c4 c5 c8 : Cell} :
    ∃ mi' fo' wt' c5' v1, tbB (tE p mi fo (wt ++ [v]) fs c4 c5 c8) = some (.nx (tE p mi' fo' wt' (fs ++ [(v, fo v)]) c4 c5' (.dat v.d))) ∧ TS p (fs ++ [(v, fo v)]) [] v1 mi' fo' wt' := by
  have size : sizeLine = 16777216 := rfl
  obtain ⟨h1, hn, hv, tgn⟩ := h.pop hp
  have nd := keys_nd hp
  have vin : (v, fo v) ∈ fs ++ [(v, fo v)] := by simp
  obtain ⟨e', q1, dn, mi', fo', wt', c5', rfl, q2, q3⟩ := for_rel (g := gN 5) (b := tbI) (edgD p v)
    (fun cs e => ∃ (dn : List ChM) (mi' fo' : SV → Int) (wt' : List SV) (c5' : Cell), e = tE p mi' fo' wt' (fs ++ [(v, fo v)]) c4 c5' (.dat v.d) ∧ dn ++ cs = choM p v ∧ TS p (fs ++ [(v, fo v)]) cs v mi' fo' wt')
    (xs := choM p v) (e := tE p mi fo wt (fs ++ [(v, fo v)]) c4 c5 (.dat v.d)) ⟨[], mi, fo, wt, c5, rfl, rfl, h1⟩ (by
    rintro c cs e ⟨dn, mi', fo', wt', c5', rfl, q2, q3⟩
    have hc : c ∈ choM p v := by rw [← q2]; simp
    have ndc : (c :: cs).Nodup := by
      have := cho_nd (p := p) (v := v)
      rw [← q2] at this
      exact (List.nodup_append.mp this).2.1
    have hf : (v, fo' v) ∈ fs ++ [(v, fo v)] := by
      have := q3.fv _ vin
      simp only at this
      rw [← this]
      exact vin
    obtain ⟨t1, t2⟩ := q3.edge hp ndc hv hc hf (tgn c hc)
    have wl : wt'.length < 16777216 := by
      have := few_keys hp q3.wnd fun w hw => ((q3.wk w).mp hw).1
      omega
    exact ⟨tE p mi' fo' wt' (fs ++ [(v, fo v)]) c4 (.dat (edgD p v c)) (.dat v.d), _, rfl, tb_inner hp hv hc wl, dn ++ [c], _, _, _, _, rfl, by simpa using q2, t1⟩)
  refine ⟨mi', fo', wt', c5', v, ?_, q3⟩
  have i2 := iv_at (f := fo) nd hv
  have ix := ey_at hp hv
  have sq : seqD (rowM p v) = some ((choM p v).map (edgD p v)) := rfl
  have ok := ok_sv v
  have tt := tup_sv v
  have kn := keysN_sv (f := PyData.int) (fs := fs)
  have fl : fs.length < 16777216 := by
    have := few_keys hp h.nd fun w hw => by
      obtain ⟨x, hx, rfl⟩ := List.mem_map.mp hw
      exact h.ks x hx
    simp at this
    omega
  have ln : (svD PyData.int fs).length < 16777216 := by rw [sv_len]; exact fl
  have pn := put_new (f := PyData.int) (v := v) (a := fo v) (fs := fs) hn
  have wm : (wt ++ [v]).map SV.d = wt.map SV.d ++ [v.d] := by simp
  unfold tE at *
  rw [← q1, wm, ← pn]
  unfold tbB
  generalize tbI = B at *
  generalize rowM p v = R at *
  generalize ivD (keysM p) fo = FO at *
  generalize ivD (keysM p) mi = MI at *
  generalize wt.map SV.d = L at *
  generalize eyD p (keysM p) = E at *
  generalize svD PyData.int fs = W at *
  generalize v.d = V at *
  generalize p.d = P at *
  simp [i2, ix, sq, ok, tt, kn, ln, size]
theorem tb_while {p : PV} (hp : p.ok) : ∀ {n : Nat} {mi fo : SV → Int} {wt : List SV} {fs : List (SV × Int)} {v0 : SV} {c4 c5 c8 : Cell}, TS p fs [] v0 mi fo wt → 16700000 ≤ n + fs.length →
    ∃ m mi' fo' fs' c5' c8', whN tbT tbB m (tE p mi fo wt fs c4 c5 c8) = some (.nx (tE p mi' fo' [] fs' c4 c5' c8')) ∧ TOk p fs' ∧ (c8' = c8 ∨ ∃ d, c8' = .dat d)
  | n, mi, fo, wt, fs, v0, c4, c5, c8, h, hn => by
    have tst : tbT (tE p mi fo wt fs c4 c5 c8) = some (decide (wt ≠ []), tE p mi fo wt fs c4 c5 c8) := by
      have sn := svs_ne (wt := wt)
      unfold tE
      generalize wt.map SV.d = L at *
      generalize ivD (keysM p) fo = FO at *
      generalize ivD (keysM p) mi = MI at *
      simp [-ne_g, tbT, sn]
    rcases List.eq_nil_or_concat wt with rfl | ⟨w0, v, rfl⟩
    · exact ⟨1, mi, fo, fs, c5, c8, wh_done tst, h.done, .inl rfl⟩
    · rw [List.concat_eq_append] at *
      have fl : fs.length < 16700000 := by
        have := few_keys hp h.nd fun w hw => by
          obtain ⟨x, hx, rfl⟩ := List.mem_map.mp hw
          exact h.ks x hx
        simpa using this
      cases n with
      | zero => omega
      | succ n =>
        obtain ⟨mi', fo', wt', c5', v1, b1, b2⟩ := tb_body hp h (c4 := c4) (c5 := c5) (c8 := c8)
        obtain ⟨m, mi'', fo'', fs', c5'', c8'', w1, w2, w3⟩ := tb_while hp (n := n) (c4 := c4) (c5 := c5') (c8 := .dat v.d) b2 (by simp; omega)
        exact ⟨m + 1, mi'', fo'', fs', c5'', c8'', wh_turn (by rw [tst]; simp) b1 w1, w2, .inr (w3.elim (fun z => ⟨_, z⟩) id)⟩
end Pf

set_option Elab.async false
set_option linter.all false
set_option maxRecDepth 100000
set_option maxHeartbeats 4000000
namespace Pf
open PySem L2 DL DL.Ev
def tbC : FS := (stN 2 (binD addG (vD (binD ixG (xV 2) (vD (binD ixG (xV 5) (vD (kD (.int 1))))))) (vD (kD (.int 1)))) (binD ixG (xV 5) (vD (kD (.int 1)))))
theorem times_is : g_times_by = (sqS (parS [2, 3] (mF (dcD (dI dkeys (xD 1)) (gN 8) yesT (emN (xD 8) (kD (.int 0))) [8]) (mF (dcD (dI dkeys (xD 1)) (gN 8) yesT (emN (xD 8) (kD (.int 0))) [8]) mN)))
    (sqS (frS (dI dvals (xD 1)) (gN 4) (frS (seqI (xD 4)) (gN 5) tbC))
    (sqS (owS 6 (lcD (dI dkeys (xD 1)) (gN 8) (vT (binD eqG (vD (binD ixG (xV 2) (xV 8))) (vD (kD (.int 0))))) (xD 8) [8]))
    (sqS (owS 7 newD)
    (sqS (whS tbT tbB)
    (rtS (dcD (dI dkeys (xD 1)) (gN 8) yesT (emN (xD 8) (nget1D (xV 7) (xD 8))) [8]))))))) := rfl
def cntF (p : PV) (dn : List (SV × ChM)) : SV → Int := fun w => (dn.countP fun e => decide (tgE p e = w) : Nat)
theorem cnt_snoc {p : PV} {dn : List (SV × ChM)} {e : SV × ChM} : cntF p (dn ++ [e]) = updF (cntF p dn) (tgE p e) (cntF p dn (tgE p e) + 1) := by
  funext w
  unfold cntF updF
  rw [List.countP_append, List.countP_singleton]
  by_cases h : w = tgE p e
  · subst h; simp
  · have h' : ¬ tgE p e = w := fun z => h z.symm
    simp [h, h']
theorem tb_count {p : PV} (hp : p.ok) {c1 c3 c4 c5 c6 c7 c8 : Cell} : ∃ c4' c5', forF (gN 4) (frS (seqI (xD 4)) (gN 5) tbC) ((keysM p).map (rowM p)) [.dat p.d, c1, .own (.dict (ivD (keysM p) (fun _ => 0))), c3, c4, c5, c6, c7, c8]
      = some (.nx [.dat p.d, c1, .own (.dict (ivD (keysM p) (cntF p (edgesM p)))), c3, c4', c5', c6, c7, c8]) := by
  have size : sizeLine = 16777216 := rfl
  have nd := keys_nd hp
  have few := few_keys hp nd fun v h => h
  obtain ⟨e', h1, done, c4', c5', rfl, h2⟩ := for_rel (g := gN 4) (b := frS (seqI (xD 4)) (gN 5) tbC) (rowM p)
    (fun xs e => ∃ (done : List SV) (c4 c5 : Cell), e = [.dat p.d, c1, .own (.dict (ivD (keysM p) (cntF p (done.flatMap fun v => (choM p v).map fun c => (v, c))))), c3, c4, c5, c6, c7, c8] ∧ done ++ xs = keysM p)
    (xs := keysM p) (e := [.dat p.d, c1, .own (.dict (ivD (keysM p) (fun _ => 0))), c3, c4, c5, c6, c7, c8]) ⟨[], c4, c5, rfl, rfl⟩ (by
    rintro v xs e ⟨done, c4, c5, rfl, h2⟩
    have hv : v ∈ keysM p := by rw [← h2]; simp
    obtain ⟨e', q1, dn, c5', rfl, q2⟩ := for_rel (g := gN 5) (b := tbC) (edgD p v)
      (fun cs e => ∃ (dn : List ChM) (c5 : Cell), e = [.dat p.d, c1, .own (.dict (ivD (keysM p) (cntF p ((done.flatMap fun v => (choM p v).map fun c => (v, c)) ++ dn.map fun c => (v, c))))), c3, .dat (rowM p v), c5, c6, c7, c8] ∧ dn ++ cs = choM p v)
      (xs := choM p v) (e := [.dat p.d, c1, .own (.dict (ivD (keysM p) (cntF p (done.flatMap fun v => (choM p v).map fun c => (v, c))))), c3, .dat (rowM p v), c5, c6, c7, c8]) ⟨[], c5, by simp, rfl⟩ (by
      rintro c cs e ⟨dn, c5, rfl, q2⟩
      have hc : c ∈ choM p v := by rw [← q2]; simp
      have hw := keys_closed hp v hv c hc
      refine ⟨[.dat p.d, c1, .own (.dict (ivD (keysM p) (cntF p ((done.flatMap fun v => (choM p v).map fun c => (v, c)) ++ dn.map fun c => (v, c))))), c3, .dat (rowM p v), .dat (edgD p v c), c6, c7, c8], _, rfl, ?_, dn ++ [c], .dat (edgD p v c), rfl, by simpa using q2⟩
      have e1 : (done.flatMap fun v => (choM p v).map fun c => (v, c)) ++ (dn ++ [c]).map (fun c => (v, c)) = ((done.flatMap fun v => (choM p v).map fun c => (v, c)) ++ dn.map fun c => (v, c)) ++ [(v, c)] := by simp
      rw [e1, cnt_snoc]
      generalize (done.flatMap fun v => (choM p v).map fun c => (v, c)) ++ dn.map (fun c => (v, c)) = D
      have i3 := iv_at (f := cntF p D) nd hw
      have p2 := iv_put (f := cntF p D) hw (i := cntF p D (tkM p v c) + 1)
      have k2 := iv_keys (ks := keysM p) (f := cntF p D)
      have l2 : (ivD (keysM p) (cntF p D)).length < 16777216 := by rw [iv_len]; omega
      have ix : ixG (edgD p v c) (.int 1) = some (tkM p v c).d := by simp [edgD]
      have ok := ok_sv (tkM p v c)
      have tt := tup_sv (tkM p v c)
      rw [← p2]
      generalize cntF p D (tkM p v c) = m at *
      generalize ivD (keysM p) (cntF p D) = MI at *
      generalize edgD p v c = ED at *
      generalize (tkM p v c).d = T at *
      simp [tbC, ix, i3, k2, ok, tt, l2, size])
    rw [List.append_nil] at q2
    subst q2
    refine ⟨[.dat p.d, c1, .own (.dict (ivD (keysM p) (cntF p (done.flatMap fun v => (choM p v).map fun c => (v, c))))), c3, .dat (rowM p v), c5, c6, c7, c8], _, rfl, ?_, done ++ [v], .dat (rowM p v), c5', rfl, by simpa using h2⟩
    have sq : seqD (rowM p v) = some ((choM p v).map (edgD p v)) := rfl
    have e2 : (done ++ [v]).flatMap (fun v => (choM p v).map fun c => (v, c)) = (done.flatMap fun v => (choM p v).map fun c => (v, c)) ++ (choM p v).map fun c => (v, c) := by simp
    rw [e2, ← q1]
    generalize rowM p v = R at *
    generalize tbC = B at *
    simp [sq])
  rw [List.append_nil] at h2
  subst h2
  exact ⟨c4', c5', h1⟩
theorem ts_first {p : PV} (hp : p.ok) : TS p [] [] (firstM p) (cntF p (edgesM p)) (fun _ => 0) ((keysM p).filter fun v => decide (cntF p (edgesM p) v = 0)) := by
  refine ⟨List.nodup_nil, by simp, by simp, fun w _ => ?_, (keys_nd hp).filter _, fun w => ?_, fun _ _ => Int.le_refl _, fun _ _ => .inl rfl, by simp, by simp, by simp⟩
  · unfold cntF
    simp
  · rw [List.mem_filter]
    simp
def tmD (p : PV) (fs : List (SV × Int)) : List (Dt × Dt) := svD oD ((keysM p).map fun v => (v, lookT fs v))
theorem times_by_e {p : PV} (hp : p.ok) : ∃ fs, F_times_by [p.d, .dict (eyD p (keysM p))] = some (.dict (tmD p fs), []) ∧ TOk p fs := by
  have size : sizeLine = 16777216 := rfl
  have few := few_keys hp (keys_nd hp) fun v h => h
  have kk := ey_k (p := p) (L := keysM p)
  have kv := ey_v (p := p) (L := keysM p)
  have kn := ey_keys (p := p) (L := keysM p)
  have z1 := zeros_e hp (e := [.dat p.d, .dat (.dict (eyD p (keysM p))), .un, .un, .un, .un, .un, .un, .un]) rfl rfl
  obtain ⟨c4, c5, h2⟩ := tb_count hp (c1 := .dat (.dict (eyD p (keysM p)))) (c3 := .own (.dict (ivD (keysM p) (fun _ => 0)))) (c4 := .un) (c5 := .un) (c6 := .un) (c7 := .un) (c8 := .un)
  have h3 : ∀ e : En, e[2]? = some (.own (.dict (ivD (keysM p) (cntF p (edgesM p))))) → e[8]? = some .un → e.length = 9 → lcF (gN 8) (vT (binD eqG (vD (binD ixG (xV 2) (xV 8))) (vD (kD (.int 0))))) (xD 8) [8] ((keysM p).map SV.d) e = some (((keysM p).filter fun v => decide (cntF p (edgesM p) v = 0)).map SV.d, e) := fun e g2 g8 gl => by
    have hs : e.set 8 .un = e := by
      refine List.ext_getElem? fun i => ?_
      by_cases hi : 8 = i
      · subst hi; rw [List.getElem?_set, g8]; simp [gl]
      · rw [List.getElem?_set_ne hi]
    rw [lcF_on SV.d (fun v => decide (cntF p (edgesM p) v = 0)) SV.d]
    intro v hv
    have i3 := iv_at (f := cntF p (edgesM p)) (keys_nd hp) hv
    have q8 : (e.set 8 (.dat v.d))[8]? = some (.dat v.d) := by rw [List.getElem?_set]; simp [gl]
    have q2 : (e.set 8 (.dat v.d))[2]? = some (.own (.dict (ivD (keysM p) (cntF p (edgesM p))))) := by rw [List.getElem?_set_ne (by omega)]; exact g2
    refine ⟨e.set 8 (.dat v.d), rfl, ?_, fun _ => ?_, by simp [noOwn, gl], by simp [wipeE, hs]⟩
    · generalize e.set 8 (.dat v.d) = e2 at *
      generalize ivD (keysM p) (cntF p (edgesM p)) = MI at *
      generalize cntF p (edgesM p) v = m at *
      generalize v.d = V at *
      simp [q8, q2, i3]
      rfl
    · generalize e.set 8 (.dat v.d) = e2 at *
      simp [q8]
  obtain ⟨m, mi', fo', fs, c5', c8', w1, w2, w3⟩ := tb_while hp (n := 16700000) (c4 := c4) (c5 := c5) (c8 := .un) (ts_first hp) (by simp)
  have w1 := whS_of w1
  refine ⟨fs, ?_, w2⟩
  have kf := keysN_sv (f := PyData.int) (fs := fs)
  have r1 : ∀ e : En, e[7]? = some (.own (.dict (svD PyData.int fs))) → e[8]? = some .un → e.length = 9 → dcL (gN 8) yesT (emN (xD 8) (nget1D (xV 7) (xD 8))) [8] ((keysM p).map SV.d) [] e = some (tmD p fs, e) := fun e g7 g8 gl => by
    have hs : e.set 8 .un = e := by
      refine List.ext_getElem? fun i => ?_
      by_cases hi : 8 = i
      · subst hi; rw [List.getElem?_set, g8]; simp [gl]
      · rw [List.getElem?_set_ne hi]
    obtain ⟨ps', q1, done, rfl, q2⟩ := dcl_rel (g := gN 8) (t := yesT) (m := emN (xD 8) (nget1D (xV 7) (xD 8))) (us := [8]) SV.d (fun xs ps => ∃ done : List SV, ps = svD oD (done.map fun v => (v, lookT fs v)) ∧ done ++ xs = keysM p) (e := e) (xs := keysM p) (ps := []) ⟨[], rfl, rfl⟩ (by
      rintro v xs ps ⟨done, rfl, q2⟩
      have nd := keys_nd hp
      rw [← q2] at nd
      have hn : v ∉ done := fun z => (List.nodup_append.mp nd).2.2 v z v (by simp) rfl
      have pn := put_new (f := oD) (v := v) (a := lookT fs v) (fs := done.map fun v => (v, lookT fs v)) (by rw [List.map_map, show ((fun x : SV × Option Int => x.1) ∘ fun v => (v, lookT fs v)) = id from rfl, List.map_id]; exact hn)
      have ok := ok_sv v
      have tt := tup_sv v
      have hz : (svD oD (done.map fun v => (v, lookT fs v))).length < 16777216 := by
        rw [sv_len, List.length_map]
        have := congrArg List.length q2
        simp at this
        omega
      have gn : (getNd (svD PyData.int fs) v.d).getD .none = oD (lookT fs v) := by
        rw [getN_sv]
        unfold lookT
        cases fs.find? fun x => decide (x.1 = v) <;> rfl
      have d8 : (e.set 8 (.dat v.d))[8]? = some (.dat v.d) := by rw [List.getElem?_set]; simp [gl]
      have d7 : (e.set 8 (.dat v.d))[7]? = some (.own (.dict (svD PyData.int fs))) := by rw [List.getElem?_set_ne (by omega)]; exact g7
      refine ⟨e.set 8 (.dat v.d), rfl, .inr ⟨svD oD ((done ++ [v]).map fun v => (v, lookT fs v)), e.set 8 (.dat v.d), rfl, ?_, by simp [noOwn, gl], by simp [wipeE, hs], done ++ [v], rfl, by simpa using q2⟩⟩
      rw [List.map_append, List.map_singleton, ← pn, ← gn]
      generalize svD oD (done.map fun v => (v, lookT fs v)) = W at *
      generalize svD PyData.int fs = W2 at *
      generalize e.set 8 (.dat v.d) = e2 at *
      generalize v.d = V at *
      simp [d8, d7, kf, ok, tt, hz, size])
    rw [List.append_nil] at q2
    rw [q2] at q1
    exact q1
  unfold F_times_by
  rw [times_is]
  unfold tE at w1
  rw [kk.symm] at z1 h3 r1
  rw [kv.symm] at h2
  generalize tmD p fs = TD at *
  generalize svD PyData.int fs = W at *
  generalize ivD (keysM p) (cntF p (edgesM p)) = MI at *
  generalize ivD (keysM p) (fun _ => 0) = Z at *
  generalize ((keysM p).filter fun v => decide (cntF p (edgesM p) v = 0)).map SV.d = WT at *
  generalize eyD p (keysM p) = E at *
  generalize p.d = P at *
  generalize tbC = B at *
  generalize whS tbT tbB = Wh at *
  have s0 : svD PyData.int [] = [] := rfl
  rw [s0] at w1
  rcases w3 with rfl | ⟨d, rfl⟩
  · simp [iniE, ownsE, kn, noOwn, wipeE, backE, z1, h2, h3]
    rw [w1]
    simp [kn, noOwn, wipeE, backE, r1]
  · simp [iniE, ownsE, kn, noOwn, wipeE, backE, z1, h2, h3]
    rw [w1]
    simp [kn, noOwn, wipeE, backE, r1]
end Pf

set_option Elab.async false
set_option linter.all false
set_option maxRecDepth 100000
set_option maxHeartbeats 4000000
namespace Pf
open PySem L2 DL DL.Ev
/-! behind what settles -/
def lowB (least : Int) (o : Option Int) : Bool := match o with
  | none => false
  | some g => decide (g < least)
def lessB (least : Int) (ts : List EvM) : Bool := (ts.map fun t => lowB least t.2.2).any id
def stepS (fs : List (SV × Int)) (acc : Option Int) (v : SV) : Option Int := acc.bind fun a => (lookT fs v).map fun t => if t + 1 > a then t + 1 else a
def stE (p : PV) (fs : List (SV × Int)) (least : Int) (acc : Option Int) (e : SV × ChM) : Option Int := if lessB least (goneM p e.1 e.2) = true then stepS fs acc e.1 else acc
def settledM (p : PV) (fs : List (SV × Int)) (least : Int) : Option Int := (edgesM p).foldl (stE p fs least) (some 0)
theorem st_none {p : PV} {fs : List (SV × Int)} {least : Int} : ∀ xs : List (SV × ChM), xs.foldl (stE p fs least) none = none
  | [] => rfl
  | e :: xs => by
    rw [List.foldl_cons]
    have : stE p fs least none e = none := by unfold stE stepS; split <;> rfl
    rw [this]
    exact st_none xs
theorem st_uniq {p : PV} {f1 f2 : List (SV × Int)} (h : ∀ v, lookT f1 v = lookT f2 v) (least : Int) : settledM p f1 least = settledM p f2 least := by
  unfold settledM
  have : stE p f1 least = stE p f2 least := by
    funext acc e
    unfold stE stepS
    rw [h]
  rw [this]
theorem tm_keys {p : PV} {fs : List (SV × Int)} : keysN (tmD p fs) = true := keysN_sv
theorem tm_at {p : PV} (hp : p.ok) {fs : List (SV × Int)} {v : SV} (hv : v ∈ keysM p) : ixG (.dict (tmD p fs)) v.d = some (oD (lookT fs v)) := by
  rw [ix_dn (tup_sv v), if_pos ⟨tm_keys, ok_sv v⟩]
  exact getN_at (f := oD) (x := (v, lookT fs v)) (by rw [List.map_map, show ((fun x : SV × Option Int => x.1) ∘ fun v => (v, lookT fs v)) = id from rfl, List.map_id]; exact keys_nd hp) (List.mem_map.mpr ⟨v, hv, rfl⟩)
theorem ey_i {p : PV} {L : List SV} : (eyD p L).map (fun x => PyData.tuple [x.1, x.2]) = L.map fun v => .tuple [v.d, rowM p v] := by simp [eyD, svD]
def sbI : FS := (ifS (vT (callD anyG (aC (vD (lcD (seqI (xD 9)) (gT 3 (gsC (gN 11) (gsC (gN 12) (gsC (gN 13) gsN)))) yesT (andV (notN (xV 13)) (binD ltG (xV 13) (xV 1))) [11, 12, 13])) aN))) (sqS (ifS (vT (isN (vD (binD ixG (xV 3) (xV 5))))) (rtS (kD .none)) skS)
    (asS (callD maxG (aC (xV 4) (aC (vD (binD addG (vD (binD ixG (xV 3) (xV 5))) (vD (kD (.int 1))))) aN))) (gN 4))) skS)
theorem settled_is : g_settled_by = (sqS (asS (cl0 F_edges_by (aC (xV 0) aN)) (gN 2))
    (sqS (parS [3, 4] (mD (cl0 F_times_by (aC (xV 0) (aC (xV 2) aN))) (mD (kD (.int 0)) mN)))
    (sqS (frS (dI dits (xD 2)) (gT 2 (gsC (gN 5) (gsC (gN 6) gsN))) (frS (seqI (xD 6)) (gT 4 (gsC (gN 7) (gsC (gN 8) (gsC (gN 9) (gsC (gN 10) gsN))))) sbI))
    (rtS (xD 4))))) := rfl
theorem sb_step {p : PV} (hp : p.ok) {fs : List (SV × Int)} {least a : Int} {v : SV} {c : ChM} (hv : v ∈ keysM p) {c2 c6 c7 c8 c10 : Cell} {e : En} (he : e = [.dat p.d, .dat (.int least), c2, .dat (.dict (tmD p fs)), .dat (.int a), .dat v.d, c6, c7, c8, .dat (.tuple ((goneM p v c).map evD)), c10, .un, .un, .un]) :
    sbI e = match stE p fs least (some a) (v, c) with
      | some a' => some (.nx (e.set 4 (.dat (.int a'))))
      | none => some (.rt .none e) := by
  have lc : lcF (gT 3 (gsC (gN 11) (gsC (gN 12) (gsC (gN 13) gsN)))) yesT (andV (notN (xV 13)) (binD ltG (xV 13) (xV 1))) [11, 12, 13] ((goneM p v c).map evD) e = some ((goneM p v c).map (fun t => PyData.bool (lowB least t.2.2)), e) := by
    subst he
    rw [lcF_on evD (fun _ => true) (fun t => .bool (lowB least t.2.2))]
    · rw [List.filter_eq_self.mpr (by simp)]
    · intro t _
      obtain ⟨i, s, o⟩ := t
      refine ⟨[.dat p.d, .dat (.int least), c2, .dat (.dict (tmD p fs)), .dat (.int a), .dat v.d, c6, c7, c8, .dat (.tuple ((goneM p v c).map evD)), c10, .dat (.int i), .dat (.int s), .dat (oD o)], by simp [evD], rfl, fun _ => ?_, by simp [noOwn], by simp [wipeE]⟩
      generalize PyData.tuple ((goneM p v c).map evD) = T
      cases o <;> simp [lowB]
  have bo : boolsOf ((goneM p v c).map (fun t => PyData.bool (lowB least t.2.2))) = some ((goneM p v c).map fun t => lowB least t.2.2) := boolsOf_map (f := fun t : EvM => lowB least t.2.2) _
  have ta := tm_at hp (fs := fs) hv
  have hl : lessB least (goneM p v c) = ((goneM p v c).map fun t => lowB least t.2.2).any id := rfl
  unfold stE
  simp only
  rw [hl]
  generalize ((goneM p v c).map fun t => lowB least t.2.2) = BL at *
  generalize ((goneM p v c).map (fun t => PyData.bool (lowB least t.2.2))) = DL' at *
  generalize (goneM p v c).map evD = GL at *
  generalize tmD p fs = T at *
  generalize v.d = V at *
  subst he
  unfold stepS
  cases hb : BL.any id with
  | false => simp [sbI, noOwn, wipeE, backE, lc, bo, hb]
  | true =>
    cases lk : lookT fs v with
    | none =>
      rw [lk] at ta
      simp [sbI, noOwn, wipeE, backE, lc, bo, hb, ta]
    | some t =>
      rw [lk] at ta
      simp [sbI, noOwn, wipeE, backE, lc, bo, hb, ta]
theorem settled_by_e {p : PV} (hp : p.ok) (least : Int) : ∃ fs, F_settled_by [p.d, .int least] = some (oD (settledM p fs least), []) ∧ TOk p fs := by
  obtain ⟨fs, t1, t2⟩ := times_by_e hp
  refine ⟨fs, ?_, t2⟩
  have he := edges_by_e hp
  have kn := ey_keys (p := p) (L := keysM p)
  have ki := ey_i (p := p) (L := keysM p)
  have all := for_relR (g := gT 2 (gsC (gN 5) (gsC (gN 6) gsN))) (b := frS (seqI (xD 6)) (gT 4 (gsC (gN 7) (gsC (gN 8) (gsC (gN 9) (gsC (gN 10) gsN))))) sbI) (fun v : SV => .tuple [v.d, rowM p v])
    (fun xs e => ∃ (done : List SV) (a : Int) (c5 c6 c7 c8 c9 c10 : Cell), e = [.dat p.d, .dat (.int least), .dat (.dict (eyD p (keysM p))), .dat (.dict (tmD p fs)), .dat (.int a), c5, c6, c7, c8, c9, c10, .un, .un, .un] ∧ done ++ xs = keysM p ∧ (done.flatMap fun v => (choM p v).map fun c => (v, c)).foldl (stE p fs least) (some 0) = some a)
    (fun d => d = .none ∧ settledM p fs least = none) (xs := keysM p) (e := [.dat p.d, .dat (.int least), .dat (.dict (eyD p (keysM p))), .dat (.dict (tmD p fs)), .dat (.int 0), .un, .un, .un, .un, .un, .un, .un, .un, .un])
    ⟨[], 0, .un, .un, .un, .un, .un, .un, rfl, rfl, rfl⟩ (by
    rintro v xs e ⟨done, a, c5, c6, c7, c8, c9, c10, rfl, h2, h3⟩
    have hv : v ∈ keysM p := by rw [← h2]; simp
    refine ⟨[.dat p.d, .dat (.int least), .dat (.dict (eyD p (keysM p))), .dat (.dict (tmD p fs)), .dat (.int a), .dat v.d, .dat (rowM p v), c7, c8, c9, c10, .un, .un, .un], by simp, ?_⟩
    have tot : ∀ (dn cs : List ChM), dn ++ cs = choM p v → edgesM p = (done.flatMap fun v => (choM p v).map fun c => (v, c)) ++ (dn.map fun c => (v, c)) ++ ((cs.map fun c => (v, c)) ++ xs.flatMap fun v => (choM p v).map fun c => (v, c)) := fun dn cs hh => by
      unfold edgesM
      rw [← h2, List.flatMap_append, List.flatMap_cons, ← hh, List.map_append]
      simp
    have inn := for_relR (g := gT 4 (gsC (gN 7) (gsC (gN 8) (gsC (gN 9) (gsC (gN 10) gsN))))) (b := sbI) (edgD p v)
      (fun cs e => ∃ (dn : List ChM) (a : Int) (c7 c8 c9 c10 : Cell), e = [.dat p.d, .dat (.int least), .dat (.dict (eyD p (keysM p))), .dat (.dict (tmD p fs)), .dat (.int a), .dat v.d, .dat (rowM p v), c7, c8, c9, c10, .un, .un, .un] ∧ dn ++ cs = choM p v ∧ ((done.flatMap fun v => (choM p v).map fun c => (v, c)) ++ dn.map fun c => (v, c)).foldl (stE p fs least) (some 0) = some a)
      (fun d => d = .none ∧ settledM p fs least = none) (xs := choM p v) (e := [.dat p.d, .dat (.int least), .dat (.dict (eyD p (keysM p))), .dat (.dict (tmD p fs)), .dat (.int a), .dat v.d, .dat (rowM p v), c7, c8, c9, c10, .un, .un, .un])
      ⟨[], a, c7, c8, c9, c10, rfl, rfl, by simpa using h3⟩ (by
      rintro c cs e ⟨dn, a, c7, c8, c9, c10, rfl, g2, g3⟩
      refine ⟨[.dat p.d, .dat (.int least), .dat (.dict (eyD p (keysM p))), .dat (.dict (tmD p fs)), .dat (.int a), .dat v.d, .dat (rowM p v), .dat (prD c), .dat (tkM p v c).d, .dat (.tuple ((goneM p v c).map evD)), .dat (.tuple ((cameM p v c).map evD)), .un, .un, .un], by simp [edgD], ?_⟩
      have sb := sb_step hp (fs := fs) (least := least) (a := a) (v := v) (c := c) hv (c2 := .dat (.dict (eyD p (keysM p)))) (c6 := .dat (rowM p v)) (c7 := .dat (prD c)) (c8 := .dat (tkM p v c).d) (c10 := .dat (.tuple ((cameM p v c).map evD))) rfl
      cases hs : stE p fs least (some a) (v, c) with
      | some a' =>
        rw [hs] at sb
        refine .inl ⟨_, sb, dn ++ [c], a', _, _, _, _, rfl, by simpa using g2, ?_⟩
        rw [List.map_append, List.map_singleton, ← List.append_assoc, List.foldl_append, g3]
        exact hs
      | none =>
        rw [hs] at sb
        refine .inr ⟨_, _, sb, rfl, ?_⟩
        unfold settledM
        rw [tot dn (c :: cs) g2, List.foldl_append, g3, List.map_cons, List.cons_append, List.foldl_cons, hs]
        exact st_none _)
    have sq : seqD (rowM p v) = some ((choM p v).map (edgD p v)) := rfl
    rcases inn with ⟨e', q1, dn, a', d7, d8, d9, d10, rfl, q2, q3⟩ | ⟨r, e', q1, q2⟩
    · rw [List.append_nil] at q2
      subst q2
      refine .inl ⟨[.dat p.d, .dat (.int least), .dat (.dict (eyD p (keysM p))), .dat (.dict (tmD p fs)), .dat (.int a'), .dat v.d, .dat (rowM p v), d7, d8, d9, d10, .un, .un, .un], ?_, done ++ [v], a', _, _, _, _, _, _, rfl, by simpa using h2, by simpa using q3⟩
      generalize sbI = B at *
      generalize rowM p v = R at *
      simp [sq, q1]
    · refine .inr ⟨r, e', ?_, q2⟩
      generalize sbI = B at *
      generalize rowM p v = R at *
      simp [sq, q1])
  unfold F_settled_by
  rw [settled_is]
  rcases all with ⟨e', q1, done, a, c5, c6, c7, c8, c9, c10, rfl, q2, q3⟩ | ⟨r, e', q1, rfl, q2⟩
  · rw [List.append_nil] at q2
    subst q2
    have sm : settledM p fs least = some a := q3
    rw [sm]
    generalize sbI = B at *
    generalize ((keysM p).map fun v => PyData.tuple [v.d, rowM p v]) = L at *
    generalize eyD p (keysM p) = E at *
    generalize tmD p fs = T at *
    simp [iniE, ownsE, he, isDr, t1, kn, ki, q1]
  · rw [q2]
    generalize sbI = B at *
    generalize ((keysM p).map fun v => PyData.tuple [v.d, rowM p v]) = L at *
    generalize eyD p (keysM p) = E at *
    generalize tmD p fs = T at *
    simp [iniE, ownsE, he, isDr, t1, kn, ki, q1]
theorem settles_e {p : PV} (hp : p.ok) {least : Int} (h0 : 0 ≤ least) (h1 : least ≤ 40) {d : Dt} (h : F_settled_by [p.d, .int least] = some (d, [])) : F_settles [p.d, .int least] = some (d, []) := by
  have lk := look_e hp
  have ln := look_number_e h0 h1
  simp [F_settles, iniE, ownsE, g_settles, lk, ln, h, isDr]
end Pf

set_option Elab.async false
set_option linter.all false
set_option maxRecDepth 100000
set_option maxHeartbeats 4000000
namespace Pf
open PySem L2 DL DL.Ev
/-! where all settles, nobody follows closely for ever -/
theorem back_times {p : PV} {fs : List (SV × Int)} (ht : TOk p fs) {gf : GM} (he : ∀ v c, EIn gf v c → (v, c) ∈ edgesM p) : ∀ (r : RunM) (u : SV) (t : Int), inGr p gf u r → (endM p u r, t) ∈ fs → ∃ s, (u, s) ∈ fs ∧ s + r.length ≤ t
  | [], u, t, _, h => ⟨t, h, by simp⟩
  | c :: r, u, t, hg, h => by
    obtain ⟨s', s1, s2⟩ := back_times ht he r _ t hg.2 h
    obtain ⟨s, s3, s4⟩ := ht.pr _ s1 (u, c) (he u c hg.1) rfl
    exact ⟨s, s3, by simp at s4 ⊢; omega⟩
theorem st_all {p : PV} {fs : List (SV × Int)} {least : Int} : ∀ (xs : List (SV × ChM)) (a0 a : Int), xs.foldl (stE p fs least) (some a0) = some a → ∀ e ∈ xs, lessB least (goneM p e.1 e.2) = true → ∃ t, lookT fs e.1 = some t
  | [], _, _, _, _, h, _ => nomatch h
  | x :: xs, a0, a, h, e, he, hl => by
    rw [List.foldl_cons] at h
    cases hs : stE p fs least (some a0) x with
    | none =>
      rw [hs, st_none] at h
      cases h
    | some a1 =>
      rw [hs] at h
      rcases List.mem_cons.mp he with rfl | he'
      · unfold stE at hs
        rw [if_pos hl] at hs
        unfold stepS at hs
        cases hk : lookT fs e.1 with
        | none => rw [hk] at hs; cases hs
        | some t => exact ⟨t, rfl⟩
      · exact st_all xs a1 a h e he' hl
theorem no_ring {p : PV} {fs : List (SV × Int)} (ht : TOk p fs) {i least a : Int} (hs : settledM p fs least = some a) {gf : GM} (sub : SubG gf (closeG p i (least - 1))) : ∀ v c r, ¬ RingAt p gf i v c r := by
  rintro v c r ⟨h1, h2, h3, h4⟩
  have he : ∀ v c, EIn gf v c → (v, c) ∈ edgesM p := fun v c z => by
    have := ein_all.mp (ein_cut.mp (sub v c z)).1
    exact edges_mem.mpr this
  have hc := (ein_cut.mp (sub v c h1)).2
  have hl : lessB least (goneM p v c) = true := by
    unfold goesB at h2
    obtain ⟨t, t1, t2⟩ := List.any_eq_true.mp h2
    unfold closeP closeB at hc
    have := List.all_eq_true.mp hc (nearB (least - 1) t.2.2) (List.mem_map.mpr ⟨t, List.mem_filter.mpr ⟨t1, t2⟩, rfl⟩)
    unfold lessB
    refine List.any_eq_true.mpr ⟨lowB least t.2.2, List.mem_map.mpr ⟨t, t1, rfl⟩, ?_⟩
    cases ho : t.2.2 with
    | none => rw [ho] at this; cases this
    | some g =>
      rw [ho] at this
      simp only [nearB, id, decide_eq_true_eq] at this
      simp only [lowB, id, decide_eq_true_eq]
      omega
  obtain ⟨t, hk⟩ := st_all _ 0 a hs (v, c) (he v c h1) hl
  have ht1 := (look_some ht.nd).mp hk
  obtain ⟨s, s1, s2⟩ := back_times ht he (c :: r) v t ⟨h1, h3⟩ (by rw [show endM p v (c :: r) = endM p (tkM p v c) r from rfl, h4]; exact ht1)
  have := fs_one ht.nd s1 ht1
  simp at s2
  omega
end Pf


set_option Elab.async false
set_option linter.all false
set_option maxRecDepth 100000
set_option maxHeartbeats 4000000
namespace Pf
open PySem L2 DL DL.Ev
/-! stands that a run of so many ticks leads to -/
def ReM (p : PV) (m : Nat) (v : SV) : Prop := ∃ r, validM p (firstM p) r ∧ endM p (firstM p) r = v ∧ r.length = m
theorem re_first {p : PV} : ReM p 0 (firstM p) := ⟨[], trivial, rfl, rfl⟩
theorem re_next {p : PV} {m : Nat} {v : SV} {c : ChM} (h : ReM p m v) (hc : c ∈ choM p v) : ReM p (m + 1) (tkM p v c) := by
  obtain ⟨r, h1, h2, h3⟩ := h
  exact ⟨r ++ [c], validM_snoc h1 (by rw [h2]; exact hc), by rw [endM_snoc, h2], by simp [h3]⟩
/-- it stands among all stands, with a run that is not longer -/
theorem re_way {p : PV} (hp : p.ok) {m : Nat} {v : SV} (h : ReM p m v) : ∃ x ∈ waysM p, x.1 = v ∧ x.2.length ≤ m := by
  obtain ⟨r, h1, h2, h3⟩ := h
  obtain ⟨y, y1, y2, y3⟩ := ways_all hp (ways_first hp) h1
  exact ⟨y, y1, y2.trans h2, by simpa [h3] using y3⟩
theorem re_key {p : PV} (hp : p.ok) {m : Nat} {v : SV} (h : ReM p m v) : v ∈ keysM p := by
  obtain ⟨x, x1, x2, _⟩ := re_way hp h
  exact List.mem_map.mpr ⟨x, x1, x2⟩
/-! times are no shorter than any run -/
theorem time_path {p : PV} (hp : p.ok) {fs : List (SV × Int)} (ht : TOk p fs) : ∀ (r : RunM) {u : SV} {t : Int}, u ∈ keysM p → validM p u r → (endM p u r, t) ∈ fs → ∃ s, (u, s) ∈ fs ∧ s + r.length ≤ t
  | [], u, t, _, _, h => ⟨t, h, by simp⟩
  | c :: r, u, t, hu, hv, h => by
    obtain ⟨s', h1, h2⟩ := time_path hp ht r (u := tkM p u c) (keys_closed hp u hu c hv.1) hv.2 h
    obtain ⟨s, h3, h4⟩ := ht.pr _ h1 (u, c) (edges_mem.mpr ⟨hu, hv.1⟩) rfl
    refine ⟨s, h3, ?_⟩
    simp only [List.length_cons] at *
    omega
theorem st_ge {p : PV} {fs : List (SV × Int)} {least : Int} : ∀ (xs : List (SV × ChM)) (a0 a : Int), xs.foldl (stE p fs least) (some a0) = some a → a0 ≤ a ∧ ∀ e ∈ xs, lessB least (goneM p e.1 e.2) = true → ∃ t, lookT fs e.1 = some t ∧ t + 1 ≤ a
  | [], a0, a, h => by
    cases h
    exact ⟨Int.le_refl _, fun _ z => nomatch z⟩
  | x :: xs, a0, a, h => by
    rw [List.foldl_cons] at h
    by_cases hl : lessB least (goneM p x.1 x.2) = true
    · cases hk : lookT fs x.1 with
      | none =>
        have : stE p fs least (some a0) x = none := by unfold stE stepS; rw [if_pos hl, hk]; rfl
        rw [this, st_none] at h
        cases h
      | some t =>
        have : stE p fs least (some a0) x = some (if t + 1 > a0 then t + 1 else a0) := by unfold stE stepS; rw [if_pos hl, hk]; rfl
        rw [this] at h
        obtain ⟨i1, i2⟩ := st_ge xs _ a h
        refine ⟨?_, fun e he hle => ?_⟩
        · split at i1 <;> omega
        · rcases List.mem_cons.mp he with rfl | he
          · exact ⟨t, hk, by split at i1 <;> omega⟩
          · exact i2 e he hle
    · have : stE p fs least (some a0) x = some a0 := by unfold stE; rw [if_neg hl]
      rw [this] at h
      obtain ⟨i1, i2⟩ := st_ge xs _ a h
      refine ⟨i1, fun e he hle => ?_⟩
      rcases List.mem_cons.mp he with rfl | he
      · exact absurd hle hl
      · exact i2 e he hle
theorem quiet_ok {p : PV} (hp : p.ok) {fs : List (SV × Int)} (ht : TOk p fs) {least q : Int} (hs : settledM p fs least = some q) {m : Nat} {v : SV} (hv : ReM p m v) {c : ChM} (hc : c ∈ choM p v) {g : Int} (hg : g ∈ gapsT p v c) (hl : g < least) : (m : Int) < q := by
  obtain ⟨_, h2⟩ := st_ge _ _ _ hs
  have hk := re_key hp hv
  have hb : lessB least (goneM p v c) = true := by
    unfold gapsT at hg
    obtain ⟨t, t1, t2⟩ := List.mem_filterMap.mp hg
    unfold lessB
    rw [List.any_map, List.any_eq_true]
    exact ⟨t, t1, by simp [lowB, t2, hl]⟩
  obtain ⟨t, t1, t2⟩ := h2 (v, c) (edges_mem.mpr ⟨hk, hc⟩) hb
  have t1 := (look_some ht.nd).mp t1
  obtain ⟨r, r1, r2, r3⟩ := hv
  rw [← r2] at t1
  obtain ⟨s, s1, s2⟩ := time_path hp ht r (List.mem_map.mpr ⟨_, ways_first hp, rfl⟩) r1 t1
  have := ht.b0 _ s1
  simp only at this
  omega
/-! the first run with a gap is a shortest one -/
theorem first_short {p : PV} (hp : p.ok) {m : Nat} {v : SV} (hv : ReM p m v) {c : ChM} (hc : c ∈ choM p v) {g : Int} (hg : g ∈ gapsT p v c) : ∃ r : RunM, firstG p g = some (runD r) ∧ r.length ≤ m + 1 := by
  obtain ⟨x, x1, x2, x3⟩ := re_way hp hv
  have ax : ∃ d, firstAt p g x = some d := by
    cases h : firstAt p g x with
    | some d => exact ⟨d, rfl⟩
    | none =>
      unfold firstAt at h
      rw [List.findSome?_eq_none_iff] at h
      have := h c (by rw [x2]; exact hc)
      rw [if_pos (by rw [x2]; exact hg)] at this
      cases this
  cases hf : firstG p g with
  | none =>
    unfold firstG at hf
    rw [List.findSome?_eq_none_iff] at hf
    obtain ⟨d, hd⟩ := ax
    rw [hf x x1] at hd
    cases hd
  | some d =>
    unfold firstG at hf
    obtain ⟨l1, y, l2, e, hy, hn⟩ := List.findSome?_eq_some_iff.mp hf
    unfold firstAt at hy
    obtain ⟨c', hc', hy⟩ := List.exists_of_findSome?_eq_some hy
    split at hy
    · cases hy
      refine ⟨y.2 ++ [c'], rfl, ?_⟩
      have le : y.2.length ≤ x.2.length := by
        obtain ⟨i, hi⟩ := List.mem_iff_getElem?.mp x1
        have hy' : (waysM p)[l1.length]? = some y := by rw [e]; simp
        by_cases hlt : i < l1.length
        · have hx : x ∈ l1 := by
            rw [e, List.getElem?_append_left hlt] at hi
            exact List.mem_of_getElem? hi
          obtain ⟨d, hd⟩ := ax
          rw [hn x hx] at hd
          cases hd
        · exact (ways_bi hp).mono l1.length i y x (by omega) hy' hi
      simp
      omega
    · cases hy
/-! the waits -/
theorem getD_setI {w : List Int} {i s : Nat} {x : Int} : (w.set i x).getD s 0 = if i = s ∧ i < w.length then x else w.getD s 0 := by
  rw [List.getD_eq_getElem?_getD, List.getD_eq_getElem?_getD, List.getElem?_set]
  by_cases h : i = s
  · subst h
    by_cases hl : i < w.length
    · simp [hl]
    · simp [hl]
  · simp [h]
theorem ws_mono {s : Nat} : ∀ {ts : List EvM} {w : List Int}, w.getD s 0 ≤ (ts.foldl wStep w).getD s 0
  | [], _ => Int.le_refl _
  | t :: ts, w => by
    rw [List.foldl_cons]
    refine Int.le_trans ?_ ws_mono
    unfold wStep
    rw [getD_setI]
    split
    · rename_i q
      rw [q.1]
      split <;> omega
    · exact Int.le_refl _
theorem ws_low {M : Int} {s : Nat} : ∀ {ts : List EvM} {w : List Int} {t : EvM}, t ∈ ts → t.2.1.toNat = s → s < w.length → t.2.2 = some M → M ≤ (ts.foldl wStep w).getD s 0
  | t' :: ts, w, t, ht, e1, hl, e2 => by
    rw [List.foldl_cons]
    rcases List.mem_cons.mp ht with q | ht'
    · subst q
      refine Int.le_trans ?_ ws_mono
      unfold wStep
      rw [getD_setI, if_pos ⟨e1, by rw [e1]; exact hl⟩, e2]
      simp only [Option.getD_some]
      split <;> omega
    · exact ws_low ht' e1 (by rw [wStep_len]; exact hl) e2
theorem wait_ge {p : PV} (hp : p.ok) {v : SV} (hv : v ∈ keysM p) {c : ChM} (hc : c ∈ choM p v) {t : EvM} (ht : t ∈ cameM p v c) {g : Int} (hg : t.2.2 = some g) : g ≤ (waitsM p).getD t.2.1.toNat 0 := by
  have ok := came_ok hp (keys_inv hp hv) t ht
  have fl : waitsM p = ((edgesM p).flatMap fun x => cameM p x.1 x.2).foldl wStep (List.replicate p.n 0) := by
    unfold waitsM
    rw [List.foldl_flatMap]
  rw [fl]
  refine ws_low (List.mem_flatMap.mpr ⟨(v, c), edges_mem.mpr ⟨hv, hc⟩, ht⟩) rfl ?_ hg
  have := ok.1
  have := ok.2.1
  simp
  omega
/-! the gaps of drawn runs, each with the first tick -/
abbrev SL := List (Int × Int)
def soD (xs : SL) : List (Dt × Dt) := xs.map fun x => (.int x.1, .int x.2)
def putS (xs : SL) (g t : Int) : SL := if g ∈ xs.map (·.1) then xs.map (fun x => if x.1 = g then (x.1, t) else x) else xs ++ [(g, t)]
def getS (xs : SL) (g : Int) : Option Int := (xs.find? fun x => decide (x.1 = g)).map (·.2)
theorem put_so {xs : SL} {g t : Int} : putP (soD xs) (.int g) (.int t) = soD (putS xs g t) := by
  have ha : ((soD xs).any fun p => PyData.eqv p.1 (.int g)) = decide (g ∈ xs.map (·.1)) := by
    unfold soD
    rw [List.any_map, Bool.eq_iff_iff]
    simp
  unfold putP putS
  rw [ha]
  by_cases h : g ∈ xs.map (·.1)
  · rw [if_pos (decide_eq_true h), if_pos h]
    unfold soD
    rw [List.map_map, List.map_map]
    refine List.map_congr_left fun x _ => ?_
    by_cases e : x.1 = g <;> simp [e]
  · rw [if_neg (by simpa using h), if_neg h]
    simp [soD]
theorem get_so {g : Int} : ∀ {xs : SL}, getP (soD xs) (.int g) = (getS xs g).map .int
  | [] => rfl
  | x :: xs => by
    have ih := get_so (g := g) (xs := xs)
    unfold getP getS soD at *
    rw [List.map_cons, List.find?_cons, List.find?_cons]
    by_cases e : x.1 = g
    · simp [e]
    · have e1 : (x.1 == g) = false := by simpa using e
      have e2 : PyData.eqv (PyData.int x.1) (.int g) = false := by simpa using e
      simp only [e2, decide_eq_false e]
      exact ih
theorem ok_so : ∀ {xs : SL}, keysOk (soD xs) = true
  | [] => rfl
  | x :: xs => by
    have := ok_so (xs := xs)
    unfold keysOk soD at *
    rw [List.map_cons, List.all_cons, this]
    rfl
theorem ints_so : ∀ {xs : SL}, keyInts (soD xs) = some (xs.map (·.1))
  | [] => rfl
  | x :: xs => by
    have := ints_so (xs := xs)
    show (keyInts (soD xs)).bind _ = _
    rw [this]
    rfl
theorem getS_mem {xs : SL} {g t : Int} (h : getS xs g = some t) : (g, t) ∈ xs := by
  unfold getS at h
  obtain ⟨x, h1, h2⟩ := Option.map_eq_some_iff.mp h
  have e := List.find?_some h1
  have m := List.mem_of_find?_eq_some h1
  simp only [decide_eq_true_eq] at e
  rw [← e, ← h2]
  exact m
theorem getS_in {xs : SL} {g : Int} (h : g ∈ xs.map (·.1)) : ∃ t, getS xs g = some t := by
  obtain ⟨x, h1, h2⟩ := List.mem_map.mp h
  cases hf : getS xs g with
  | some t => exact ⟨t, rfl⟩
  | none =>
    unfold getS at hf
    rw [Option.map_eq_none_iff, List.find?_eq_none] at hf
    exact absurd (by simpa using h2) (hf x h1)
structure SoOk (p : PV) (xs : SL) : Prop where
  nd : (xs.map (·.1)).Nodup
  r : ∀ x ∈ xs, ∃ m : Nat, x.2 = m ∧ ∃ v, ReM p m v ∧ ∃ c ∈ choM p v, x.1 ∈ gapsT p v c
theorem SoOk.few {p : PV} (hp : p.ok) {xs : SL} (h : SoOk p xs) : xs.length ≤ 39 := by
  have := few_ints h.nd fun g hg => by
    obtain ⟨x, hx, rfl⟩ := List.mem_map.mp hg
    obtain ⟨m, _, v, h1, c, _, h2⟩ := h.r x hx
    exact gapsT_bd hp (keys_inv hp (re_key hp h1)) h2
  simpa using this
theorem SoOk.put {p : PV} {xs : SL} (h : SoOk p xs) {m : Nat} {v : SV} (hv : ReM p m v) {c : ChM} (hc : c ∈ choM p v) {g : Int} (hg : g ∈ gapsT p v c) : SoOk p (putS xs g (if (getS xs g).getD m < m then (getS xs g).getD m else m)) := by
  have w : ∃ m' : Nat, (if (getS xs g).getD (m : Int) < m then (getS xs g).getD (m : Int) else (m : Int)) = m' ∧ ∃ v, ReM p m' v ∧ ∃ c ∈ choM p v, g ∈ gapsT p v c := by
    cases hs : getS xs g with
    | none => exact ⟨m, by simp, v, hv, c, hc, hg⟩
    | some t =>
      obtain ⟨m', e, z⟩ := h.r _ (getS_mem hs)
      simp only at e z
      by_cases ht : t < (m : Int)
      · exact ⟨m', by rw [Option.getD_some, if_pos ht]; exact e, z⟩
      · exact ⟨m, by simp [ht], v, hv, c, hc, hg⟩
  generalize (if (getS xs g).getD (m : Int) < m then (getS xs g).getD (m : Int) else (m : Int)) = t at *
  unfold putS
  by_cases hm : g ∈ xs.map (·.1)
  · rw [if_pos hm]
    have e : (xs.map fun x => if x.1 = g then (x.1, t) else x).map (·.1) = xs.map (·.1) := by
      rw [List.map_map]
      refine List.map_congr_left fun x _ => ?_
      simp only [Function.comp]
      split <;> rfl
    refine ⟨by rw [e]; exact h.nd, fun x hx => ?_⟩
    obtain ⟨y, hy, rfl⟩ := List.mem_map.mp hx
    by_cases q : y.1 = g
    · rw [if_pos q]
      simp only [q]
      exact w
    · rw [if_neg q]
      exact h.r y hy
  · rw [if_neg hm]
    refine ⟨?_, fun x hx => ?_⟩
    · rw [List.map_append, List.nodup_append]
      refine ⟨h.nd, by simp, fun a ha b hb => ?_⟩
      simp only [List.map_cons, List.map_nil, List.mem_singleton] at hb
      subst hb
      exact fun z => hm (z ▸ ha)
    · rcases List.mem_append.mp hx with hx | hx
      · exact h.r x hx
      · rw [List.mem_singleton] at hx
        subst hx
        exact w
end Pf

set_option Elab.async false
set_option linter.all false
set_option maxRecDepth 100000
set_option maxHeartbeats 4000000
namespace Pf
open PySem L2 DL DL.Ev
noncomputable def lw_1_1 : FS := (owS 2 (clN F_law_spring (aC (xV 0) (aC (xV 1) aN))))
noncomputable def lw_1_2 : FS := (asS (cl1 F_law_plan (aC (xV 2) (aC (vD (kD (.int 2))) aN))) (gN 3))
noncomputable def lw_1_3 : FS := (asS (cl0 F_gaps (aC (xV 3) aN)) (gT 2 (gsC (gN 4) (gsC (gN 5) gsN))))
noncomputable def lw_1_4 : FS := (asS (lcD (rng1I (aC (vD (kD (.int 2))) aN)) (gN 17) yesT (cl0 F_longest_wait (aC (xV 3) (aC (xV 17) aN))) [17]) (gN 6))
noncomputable def lw_1_5 : FS := (asS (binD addG (vD (binD addG (xV 4) (vD (kD (.int 1))))) (vD (cl1 F_law_pick (aC (xV 2) (aC (vD (kD (.int 2))) aN))))) (gN 7))
noncomputable def lw_1_6 : FS := (asS (cl0 F_settles (aC (xV 3) (aC (xV 7) aN))) (gN 8))
noncomputable def lw_1_7 : FS := (ifS (vT (binD neG (vD (cl0 F_settles (aC (xV 3) (aC (xV 4) aN)))) (vD (kD (.int 0))))) (rtS (kD (.bool false))) skS)
noncomputable def lw_1_8 : FS := (owS 9 newD)
noncomputable def lw_1_9_1 : FS := (asS (cl0 F_law_first (aC (xV 3) aN)) (gN 11))
noncomputable def lw_1_9_2_1 : FS := (asS (cl0 F_law_choices (aC (xV 3) (aC (xV 11) aN))) (gN 13))
noncomputable def lw_1_9_2_2 : FS := (asS (cl0 F_law_tick (aC (xV 3) (aC (xV 11) (aC (vD (binD ixG (xV 13) (vD (cl1 F_law_pick (aC (xV 2) (aC (vD (callD lenG (aC (xV 13) aN))) aN)))))) aN)))) (gT 3 (gsC (gN 11) (gsC (gN 14) (gsC (gN 15) gsN)))))
noncomputable def lw_1_9_2_3_1 : FS := (ifS (vT (notN (xV 18))) (sqS (stK 9 (callD minG (aC (xV 12) (aC (vD (get2E (xV 9) (xD 18) (xD 12))) aN))) (xD 18)) (ifS (orT (notT (vT (chD leG leG (xV 4) (xV 18) (xV 5)))) (andT (vT (notN (xV 8))) (andT (vT (binD geG (xV 12) (xV 8))) (vT (binD ltG (xV 18) (xV 7)))))) (rtS (kD (.bool false))) skS)) skS)
noncomputable def lw_1_9_2_3_b : FS := lw_1_9_2_3_1
noncomputable def lw_1_9_2_3 : FS := (frS (seqI (xD 14)) (gT 3 (gsC (gN 16) (gsC (gN 17) (gsC (gN 18) gsN)))) lw_1_9_2_3_b)
noncomputable def lw_1_9_2_4 : FS := (ifS (vT (binD neG (vD (lcD (seqI (xD 15)) (gT 3 (gsC (gN 16) (gsC (gN 17) (gsC (gN 18) gsN)))) (andT (vT (notN (xV 18))) (vT (binD gtG (xV 18) (vD (binD ixG (xV 6) (xV 17)))))) (kD (.int 1)) [16, 17, 18])) (vD (lstD aN)))) (rtS (kD (.bool false))) skS)
noncomputable def lw_1_9_2_b : FS := (sqS lw_1_9_2_1 (sqS lw_1_9_2_2 (sqS lw_1_9_2_3 lw_1_9_2_4)))
noncomputable def lw_1_9_2 : FS := (frS (rng1I (aC (vD (kD (.int 80))) aN)) (gN 12) lw_1_9_2_b)
noncomputable def lw_1_9_b : FS := (sqS lw_1_9_1 lw_1_9_2)
noncomputable def lw_1_9 : FS := (frS (rng1I (aC (vD (kD (.int 10))) aN)) (gN 10) lw_1_9_b)
noncomputable def lw_1_10_1 : FS := (asS (cl0 F_first_gap (aC (xV 3) (aC (xV 18) aN))) (gN 19))
noncomputable def lw_1_10_2 : FS := (ifS (orT (vT (isN (xV 19))) (vT (binD gtG (vD (callD lenG (aC (xV 19) aN))) (vD (binD addG (vD (binD ixK (xV 9) (xV 18))) (vD (kD (.int 1)))))))) (rtS (kD (.bool false))) skS)
noncomputable def lw_1_10_b : FS := (sqS lw_1_10_1 lw_1_10_2)
noncomputable def lw_1_10 : FS := (frS (seqI (binD addG (vD (slD (vD (callD sortKE (aC (xV 9) aN))) oN (oS (kD (.int 2))))) (vD (slD (vD (callD sortKE (aC (xV 9) aN))) (oS (negD (vD (kD (.int 1))))) oN)))) (gN 18) lw_1_10_b)
noncomputable def lw_1_b : FS := (sqS lw_1_1 (sqS lw_1_2 (sqS lw_1_3 (sqS lw_1_4 (sqS lw_1_5 (sqS lw_1_6 (sqS lw_1_7 (sqS lw_1_8 (sqS lw_1_9 lw_1_10)))))))))
noncomputable def lw_1 : FS := (frS (rng1I (aC (vD (binD addG (vD (callD minG (aC (vD (callD lenG (aC (xV 0) aN))) (aC (vD (kD (.int 3))) aN)))) (vD (kD (.int 1))))) aN)) (gN 1) lw_1_b)
noncomputable def lw_2 : FS := (rtS (kD (.bool true)))
noncomputable def lw_b : FS := (sqS lw_1 lw_2)
theorem lw_is : g_law = lw_b := rfl
end Pf

set_option Elab.async false
set_option linter.all false
set_option maxRecDepth 100000
set_option maxHeartbeats 4000000
namespace Pf
open PySem L2 DL DL.Ev
theorem sq_ok {f g : FS} {e e1 : En} (h : f e = some (.nx e1)) : sqS f g e = g e1 := by simp [h]
@[simp] theorem get2E_e {fd : FV} {fk fx : FD} {e : En} : get2E fd fk fx e = (fd e).bnd fun p => (toD p.2 p.1).bnd fun d0 => if isKd d0 = true then (fk p.2).bnd fun q => (fx q.2).bnd fun r => (toD r.2 p.1).bnd fun d => (getKG d q.1).bnd fun o => some (o.getD r.1, r.2) else none := id rfl
@[simp] theorem isKd_d {ps : List (Dt × Dt)} : isKd (.dict ps) = keysOk ps := id rfl
@[simp] theorem getKG_d {ps : List (Dt × Dt)} {k : Dt} : getKG (.dict ps) k = if keysOk ps = true ∧ (keyOf k).isSome = true then some (getP ps k) else none := id rfl
@[simp] theorem ixK_d {ps : List (Dt × Dt)} {k : Dt} : ixK (.dict ps) k = if keysOk ps = true ∧ (keyOf k).isSome = true then getP ps k else none := id rfl
def addS (xs : SL) (o : Option Int) (m : Int) : SL := match o with
  | none => xs
  | some g => putS xs g (if (getS xs g).getD m < m then (getS xs g).getD m else m)
section
variable {S P W : Dt} {at_ a b lo hi le : Int} {qo : Option Int} {c10 c11 c13 c14 c15 c16 c17 c19 : Cell}
/-- one leaving -/
theorem gone_step {xs : SL} (hl : xs.length < 16777216) {m : Int} {o : Option Int} (h1 : ∀ g, o = some g → lo ≤ g ∧ g ≤ hi) (h2 : ∀ g q, o = some g → qo = some q → g < le → m < q) :
    lw_1_9_2_3_1 [.dat S, .dat (.int at_), .own (spr a b), .dat P, .dat (.int lo), .dat (.int hi), .dat W, .dat (.int le), .dat (oD qo), .own (.dict (soD xs)), c10, c11, .dat (.int m), c13, c14, c15, c16, c17, .dat (oD o), c19]
      = some (.nx [.dat S, .dat (.int at_), .own (spr a b), .dat P, .dat (.int lo), .dat (.int hi), .dat W, .dat (.int le), .dat (oD qo), .own (.dict (soD (addS xs o m))), c10, c11, .dat (.int m), c13, c14, c15, c16, c17, .dat (oD o), c19]) := by
  have size : sizeLine = 16777216 := rfl
  cases o with
  | none => simp [lw_1_9_2_3_1, addS]
  | some g =>
    obtain ⟨l1, l2⟩ := h1 g rfl
    have ok := ok_so (xs := xs)
    have gs : (getP (soD xs) (.int g)).getD (.int m) = .int ((getS xs g).getD m) := by
      rw [get_so]
      cases getS xs g <;> rfl
    have ln : (soD xs).length < 16777216 := by simpa [soD] using hl
    have ps := put_so (xs := xs) (g := g) (t := if (getS xs g).getD m < m then (getS xs g).getD m else m)
    unfold addS
    simp only
    rw [← ps]
    generalize (getS xs g).getD m = y at *
    generalize soD xs = Z at *
    cases qo with
    | none => simp [lw_1_9_2_3_1, ok, keyOf, size, ln, gs, l1, l2]
    | some q =>
      have h3 := h2 g q rfl rfl
      by_cases hq : q ≤ m
      · have h4 : ¬ g < le := fun z => by have := h3 z; omega
        simp [lw_1_9_2_3_1, ok, keyOf, size, ln, gs, l1, l2, hq, h4]
      · simp [lw_1_9_2_3_1, ok, keyOf, size, ln, gs, l1, l2, hq]
end

structure K05F (p : PV) (lo hi le : Int) (qo : Option Int) : Prop where
  hp : p.ok
  bd : ∀ g ∈ gapsAll p, lo ≤ g ∧ g ≤ hi
  qu : ∀ (m : Nat) v c g q, ReM p m v → c ∈ choM p v → g ∈ gapsT p v c → qo = some q → g < le → (m : Int) < q
section
variable {S : Dt} {at_ lo hi le : Int} {qo : Option Int} {c10 c13 c14 c15 c16 c17 c18 c19 : Cell} {p : PV}
theorem gap_mem {v : SV} {c : ChM} {t : EvM} (ht : t ∈ goneM p v c) {g : Int} (hg : t.2.2 = some g) : g ∈ gapsT p v c := List.mem_filterMap.mpr ⟨t, ht, hg⟩
theorem SoOk.add {xs : SL} (h : SoOk p xs) {m : Nat} {v : SV} (hv : ReM p m v) {c : ChM} (hc : c ∈ choM p v) {t : EvM} (ht : t ∈ goneM p v c) : SoOk p (addS xs t.2.2 m) := by
  cases ho : t.2.2 with
  | none => exact h
  | some g => exact h.put hv hc (gap_mem ht ho)
/-- all leavings of a tick -/
theorem gone_all (K : K05F p lo hi le qo) {xs : SL} (hx : SoOk p xs) {m : Nat} {v : SV} (hv : ReM p m v) {c : ChM} (hc : c ∈ choM p v) {a b : Int} {W c11 : Cell} {W' : Dt} (hW : W = .dat W') (hn : noOwn [c16, c17, c18] [0, 1, 2] = true) : ∃ (xs' : SL) (d16 d17 d18 : Cell), SoOk p xs' ∧ noOwn [d16, d17, d18] [0, 1, 2] = true ∧
    forF (gT 3 (gsC (gN 16) (gsC (gN 17) (gsC (gN 18) gsN)))) lw_1_9_2_3_b ((goneM p v c).map evD) [.dat S, .dat (.int at_), .own (spr a b), .dat p.d, .dat (.int lo), .dat (.int hi), W, .dat (.int le), .dat (oD qo), .own (.dict (soD xs)), c10, c11, .dat (.int m), c13, c14, c15, c16, c17, c18, c19]
      = some (.nx [.dat S, .dat (.int at_), .own (spr a b), .dat p.d, .dat (.int lo), .dat (.int hi), W, .dat (.int le), .dat (oD qo), .own (.dict (soD xs')), c10, c11, .dat (.int m), c13, c14, c15, d16, d17, d18, c19]) := by
  subst hW
  obtain ⟨e', h1, xs', dn, d16, d17, d18, rfl, h2, h3, h4⟩ := for_rel (g := gT 3 (gsC (gN 16) (gsC (gN 17) (gsC (gN 18) gsN)))) (b := lw_1_9_2_3_b) evD
    (fun (ts : List EvM) e => ∃ (xs' : SL) (dn : List EvM) (d16 d17 d18 : Cell), e = [.dat S, .dat (.int at_), .own (spr a b), .dat p.d, .dat (.int lo), .dat (.int hi), .dat W', .dat (.int le), .dat (oD qo), .own (.dict (soD xs')), c10, c11, .dat (.int m), c13, c14, c15, d16, d17, d18, c19] ∧ dn ++ ts = goneM p v c ∧ SoOk p xs' ∧ noOwn [d16, d17, d18] [0, 1, 2] = true)
    (xs := goneM p v c) ⟨xs, [], c16, c17, c18, rfl, rfl, hx, hn⟩ (by
    rintro t ts e ⟨xs', dn, d16, d17, d18, rfl, h2, h3, h4⟩
    have ht : t ∈ goneM p v c := by rw [← h2]; simp
    have fl := h3.few K.hp
    refine ⟨[.dat S, .dat (.int at_), .own (spr a b), .dat p.d, .dat (.int lo), .dat (.int hi), .dat W', .dat (.int le), .dat (oD qo), .own (.dict (soD xs')), c10, c11, .dat (.int m), c13, c14, c15, .dat (.int t.1), .dat (.int t.2.1), .dat (oD t.2.2), c19], _, by simp [evD], gone_step (by omega) (fun g hg => K.bd g (gapsAll_mem.mpr ⟨v, re_key K.hp hv, c, hc, gap_mem ht hg⟩)) (fun g q hg hq hl => K.qu m v c g q hv hc (gap_mem ht hg) hq hl), addS xs' t.2.2 m, dn ++ [t], _, _, _, rfl, by simpa using h2, h3.add hv hc ht, by simp [noOwn]⟩)
  exact ⟨xs', d16, d17, d18, h3, h4, h1⟩
/-- no coming with a longer wait -/
theorem came_none (K : K05F p lo hi le qo) {v : SV} (hv : v ∈ keysM p) {c : ChM} (hc : c ∈ choM p v) {e : En} (c0 c1 c2 c3 c4 c5 c7 c8 c9 c11 c12 : Cell) (he : e = [c0, c1, c2, c3, c4, c5, .dat (.list ((waitsM p).map .int)), c7, c8, c9, c10, c11, c12, c13, c14, c15, .un, .un, .un, c19]) :
    lcF (gT 3 (gsC (gN 16) (gsC (gN 17) (gsC (gN 18) gsN)))) (andT (vT (notN (xV 18))) (vT (binD gtG (xV 18) (vD (binD ixG (xV 6) (xV 17)))))) (kD (.int 1)) [16, 17, 18] ((cameM p v c).map evD) e = some ([], e) := by
  subst he
  rw [lcF_on evD (fun _ => false) (fun _ => .int 1)]
  · simp
  · intro t ht
    have ok := came_ok K.hp (keys_inv K.hp hv) t ht
    have o1 := ok.1
    have o2 := ok.2.1
    have wl := waits_len (p := p)
    have hs : t.2.1.toNat < (waitsM p).length := by omega
    have ha : atI ((waitsM p).map PyData.int) t.2.1 = some (.int ((waitsM p).getD t.2.1.toNat 0)) := by
      obtain ⟨k, hk⟩ : ∃ k : Nat, t.2.1 = k := ⟨t.2.1.toNat, by omega⟩
      rw [hk] at hs ⊢
      simp only [Int.toNat_natCast] at hs ⊢
      simp [atI, ixN, hs, List.getD_eq_getElem?_getD]
    have hg := fun g => wait_ge K.hp hv hc ht (g := g)
    obtain ⟨i, s, o⟩ := t
    simp only at ha hg
    generalize (waitsM p).getD s.toNat 0 = w at *
    generalize (waitsM p).map PyData.int = L at *
    refine ⟨[c0, c1, c2, c3, c4, c5, .dat (.list L), c7, c8, c9, c10, c11, c12, c13, c14, c15, .dat (.int i), .dat (.int s), .dat (oD o), c19], by simp [evD], ?_, fun h => absurd h (by simp), by simp [noOwn], by simp [wipeE]⟩
    cases o with
    | none => simp
    | some g =>
      have : ¬ w < g := by have := hg g rfl; omega
      simp [ha, this]
end
end Pf

set_option Elab.async false
set_option linter.all false
set_option maxRecDepth 100000
set_option maxHeartbeats 4000000
namespace Pf
open PySem L2 DL DL.Ev
section
variable {S : Dt} {at_ lo hi le : Int} {qo : Option Int} {c10 c11 c12 c13 c14 c15 c16 c17 c18 c19 : Cell} {p : PV}
abbrev e5 (S : Dt) (at_ a b : Int) (p : PV) (lo hi le : Int) (qo : Option Int) (xs : SL) (c10 c11 c12 c13 c14 c15 c16 c17 c18 c19 : Cell) : En :=
  [.dat S, .dat (.int at_), .own (spr a b), .dat p.d, .dat (.int lo), .dat (.int hi), .dat (.list ((waitsM p).map .int)), .dat (.int le), .dat (oD qo), .own (.dict (soD xs)), c10, c11, c12, c13, c14, c15, c16, c17, c18, c19]
/-- a tick -/
theorem tick_turn (K : K05F p lo hi le qo) {xs : SL} (hx : SoOk p xs) {m : Nat} {v : SV} (hv : ReM p m v) {a b : Int} (hn : noOwn [c16, c17, c18] [0, 1, 2] = true) : ∃ (a' b' : Int) (xs' : SL) (v' : SV) (d13 d14 d15 d16 d17 d18 : Cell), SoOk p xs' ∧ ReM p (m + 1) v' ∧ noOwn [d16, d17, d18] [0, 1, 2] = true ∧
    lw_1_9_2_b (e5 S at_ a b p lo hi le qo xs c10 (.dat v.d) (.dat (.int (0 + (m : Int)))) c13 c14 c15 c16 c17 c18 c19) = some (.nx (e5 S at_ a' b' p lo hi le qo xs' c10 (.dat v'.d) (.dat (.int (0 + (m : Int)))) d13 d14 d15 d16 d17 d18 c19)) := by
  have hk := re_key K.hp hv
  have hI := keys_inv K.hp hk
  have h1 := cho_ne K.hp (v := v)
  have h2 := cho_le (p := p) (v := v)
  obtain ⟨a', b', d, e1, l1, u1⟩ := pick_e a b (n := ((choM p v).length : Int)) (by omega) (by omega)
  obtain ⟨x, mx, ix⟩ := atI_mem (xs := (choM p v).map prD) l1 (by simpa using u1)
  rw [List.mem_map] at mx
  obtain ⟨c, hc, rfl⟩ := mx
  have g0 := cho_e (p := p) (v := v)
  have g1 : F_law_tick [p.d, v.d, prD c] = some (.tuple [(tkM p v c).d, .tuple ((goneM p v c).map evD), .tuple ((cameM p v c).map evD)], []) := by
    have := tick_e (e0 := c.1) (e1 := c.2) K.hp hI.ok
    rw [gone_eq, came_eq] at this
    exact this
  rw [Int.zero_add]
  obtain ⟨xs', d16, d17, d18, k1, k2, k3⟩ := gone_all (S := S) (at_ := at_) (c10 := c10) (c11 := .dat (tkM p v c).d) (c13 := .dat (.list ((choM p v).map prD))) (c14 := .dat (.tuple ((goneM p v c).map evD))) (c15 := .dat (.tuple ((cameM p v c).map evD))) (c16 := c16) (c17 := c17) (c18 := c18) (c19 := c19) K hx hv hc (a := a') (b := b') (W' := .list ((waitsM p).map .int)) rfl hn
  have lc := came_none K hk hc (c10 := c10) (c13 := .dat (.list ((choM p v).map prD))) (c14 := .dat (.tuple ((goneM p v c).map evD))) (c15 := .dat (.tuple ((cameM p v c).map evD))) (c19 := c19) (.dat S) (.dat (.int at_)) (.own (spr a' b')) (.dat p.d) (.dat (.int lo)) (.dat (.int hi)) (.dat (.int le)) (.dat (oD qo)) (.own (.dict (soD xs'))) (.dat (tkM p v c).d) (.dat (.int (m : Int))) rfl
  refine ⟨a', b', xs', tkM p v c, .dat (.list ((choM p v).map prD)), .dat (.tuple ((goneM p v c).map evD)), .dat (.tuple ((cameM p v c).map evD)), d16, d17, d18, k1, re_next hv hc, k2, ?_⟩
  unfold e5
  generalize hW : (waitsM p).map PyData.int = W at *
  generalize oD qo = Q at *
  generalize soD xs = X at *
  generalize soD xs' = X' at *
  generalize (tkM p v c).d = V' at *
  generalize v.d = V at *
  generalize p.d = PD at *
  generalize hR : (choM p v).map prD = R at *
  have hlen : (choM p v).length = R.length := by rw [← hR]; simp
  rw [hlen] at e1
  generalize (goneM p v c).map evD = G at *
  generalize (cameM p v c).map evD = M at *
  generalize prD c = C at *
  unfold lw_1_9_2_b
  rw [sq_ok (e1 := [.dat S, .dat (.int at_), .own (spr a b), .dat PD, .dat (.int lo), .dat (.int hi), .dat (.list W), .dat (.int le), .dat Q, .own (.dict X), c10, .dat V, .dat (.int m), .dat (.list R), c14, c15, c16, c17, c18, c19]) (by simp [lw_1_9_2_1, g0, isDr])]
  rw [sq_ok (e1 := [.dat S, .dat (.int at_), .own (spr a' b'), .dat PD, .dat (.int lo), .dat (.int hi), .dat (.list W), .dat (.int le), .dat Q, .own (.dict X), c10, .dat V', .dat (.int m), .dat (.list R), .dat (.tuple G), .dat (.tuple M), c16, c17, c18, c19]) (by simp [lw_1_9_2_2, e1, ix, g1, isDr])]
  rw [sq_ok (e1 := [.dat S, .dat (.int at_), .own (spr a' b'), .dat PD, .dat (.int lo), .dat (.int hi), .dat (.list W), .dat (.int le), .dat Q, .own (.dict X'), c10, .dat V', .dat (.int m), .dat (.list R), .dat (.tuple G), .dat (.tuple M), d16, d17, d18, c19]) (by
    unfold lw_1_9_2_3
    generalize lw_1_9_2_3_b = B at *
    simp [k3])]
  have no : noOwn [.dat S, .dat (.int at_), .own (spr a' b'), .dat PD, .dat (.int lo), .dat (.int hi), .dat (.list W), .dat (.int le), .dat Q, .own (.dict X'), c10, .dat V', .dat (.int m), .dat (.list R), .dat (.tuple G), .dat (.tuple M), d16, d17, d18, c19] [16, 17, 18] = true := by
    simp only [noOwn, List.all_cons, List.all_nil] at k2 ⊢
    exact k2
  have wi : wipeE [.dat S, .dat (.int at_), .own (spr a' b'), .dat PD, .dat (.int lo), .dat (.int hi), .dat (.list W), .dat (.int le), .dat Q, .own (.dict X'), c10, .dat V', .dat (.int m), .dat (.list R), .dat (.tuple G), .dat (.tuple M), d16, d17, d18, c19] [16, 17, 18] = [.dat S, .dat (.int at_), .own (spr a' b'), .dat PD, .dat (.int lo), .dat (.int hi), .dat (.list W), .dat (.int le), .dat Q, .own (.dict X'), c10, .dat V', .dat (.int m), .dat (.list R), .dat (.tuple G), .dat (.tuple M), .un, .un, .un, c19] := by simp [wipeE]
  simp [lw_1_9_2_4, no, wi, lc, backE]
/-- the eighty ticks of a run -/
theorem ticks_all (K : K05F p lo hi le qo) {xs : SL} (hx : SoOk p xs) {a b : Int} (hn : noOwn [c16, c17, c18] [0, 1, 2] = true) : ∃ (a' b' : Int) (xs' : SL) (d11 d12 d13 d14 d15 d16 d17 d18 : Cell), SoOk p xs' ∧ noOwn [d16, d17, d18] [0, 1, 2] = true ∧
    lw_1_9_2 (e5 S at_ a b p lo hi le qo xs c10 (.dat (firstM p).d) c12 c13 c14 c15 c16 c17 c18 c19) = some (.nx (e5 S at_ a' b' p lo hi le qo xs' c10 d11 d12 d13 d14 d15 d16 d17 d18 c19)) := by
  obtain ⟨e', h1, a', b', xs', m, v, d12, d13, d14, d15, d16, d17, d18, rfl, _, _, h3, h4⟩ := for_rel (g := gN 12) (b := lw_1_9_2_b) (fun i : Nat => PyData.int (0 + (i : Int)))
    (fun (L : List Nat) e => ∃ (a' b' : Int) (xs' : SL) (m : Nat) (v : SV) (d12 d13 d14 d15 d16 d17 d18 : Cell), e = e5 S at_ a' b' p lo hi le qo xs' c10 (.dat v.d) d12 d13 d14 d15 d16 d17 d18 c19 ∧ L = List.range' m (80 - m) ∧ ReM p m v ∧ SoOk p xs' ∧ noOwn [d16, d17, d18] [0, 1, 2] = true)
    (xs := List.range 80) (e := e5 S at_ a b p lo hi le qo xs c10 (.dat (firstM p).d) c12 c13 c14 c15 c16 c17 c18 c19) ⟨a, b, xs, 0, firstM p, c12, c13, c14, c15, c16, c17, c18, rfl, by rw [List.range_eq_range'], re_first, hx, hn⟩ (by
    rintro i L e ⟨a', b', xs', m, v, d12, d13, d14, d15, d16, d17, d18, rfl, h2, h3, h4, h5⟩
    obtain ⟨k, hk⟩ : ∃ k, 80 - m = k + 1 := by
      cases hq : 80 - m with
      | zero => rw [hq] at h2; simp at h2
      | succ k => exact ⟨k, rfl⟩
    rw [hk, List.range'_succ] at h2
    injection h2 with h2 h6
    subst h2
    obtain ⟨a2, b2, xs2, v2, g13, g14, g15, g16, g17, g18, t1, t2, t3, t4⟩ := tick_turn (S := S) (at_ := at_) (c10 := c10) (c13 := d13) (c14 := d14) (c15 := d15) (c16 := d16) (c17 := d17) (c18 := d18) (c19 := c19) K h4 h3 (a := a') (b := b') h5
    exact ⟨_, _, rfl, t4, a2, b2, xs2, i + 1, v2, _, _, _, _, _, _, _, rfl, by rw [h6]; congr 1; omega, t2, t1, t3⟩)
  refine ⟨a', b', xs', .dat v.d, d12, d13, d14, d15, d16, d17, d18, h3, h4, ?_⟩
  unfold lw_1_9_2
  have r : (rngD 0 80) = (List.range 80).map fun i : Nat => PyData.int (0 + (i : Int)) := rfl
  generalize lw_1_9_2_b = B at *
  rw [← r] at h1
  simp [h1]
/-- the ten runs -/
theorem runs_all (K : K05F p lo hi le qo) {a b : Int} (hn : noOwn [c16, c17, c18] [0, 1, 2] = true) : ∃ (a' b' : Int) (xs' : SL) (d10 d11 d12 d13 d14 d15 d16 d17 d18 : Cell), SoOk p xs' ∧ noOwn [d16, d17, d18] [0, 1, 2] = true ∧
    lw_1_9 (e5 S at_ a b p lo hi le qo [] c10 c11 c12 c13 c14 c15 c16 c17 c18 c19) = some (.nx (e5 S at_ a' b' p lo hi le qo xs' d10 d11 d12 d13 d14 d15 d16 d17 d18 c19)) := by
  obtain ⟨e', h1, a', b', xs', d10, d11, d12, d13, d14, d15, d16, d17, d18, rfl, h3, h4⟩ := forF_inv (g := gN 10) (b := lw_1_9_b)
    (fun e => ∃ (a' b' : Int) (xs' : SL) (d10 d11 d12 d13 d14 d15 d16 d17 d18 : Cell), e = e5 S at_ a' b' p lo hi le qo xs' d10 d11 d12 d13 d14 d15 d16 d17 d18 c19 ∧ SoOk p xs' ∧ noOwn [d16, d17, d18] [0, 1, 2] = true)
    (ds := rngD 0 10) (e := e5 S at_ a b p lo hi le qo [] c10 c11 c12 c13 c14 c15 c16 c17 c18 c19) (by
    rintro d hd e ⟨a', b', xs', d10, d11, d12, d13, d14, d15, d16, d17, d18, rfl, h3, h4⟩
    obtain ⟨a2, b2, xs2, g11, g12, g13, g14, g15, g16, g17, g18, t1, t2, t3⟩ := ticks_all (S := S) (at_ := at_) (c10 := .dat d) (c12 := d12) (c13 := d13) (c14 := d14) (c15 := d15) (c16 := d16) (c17 := d17) (c18 := d18) (c19 := c19) K h3 (a := a') (b := b') h4
    have f1 := first_e K.hp
    refine ⟨_, _, rfl, ?_, a2, b2, xs2, .dat d, g11, g12, g13, g14, g15, g16, g17, g18, rfl, t1, t2⟩
    unfold lw_1_9_b
    rw [sq_ok (e1 := e5 S at_ a' b' p lo hi le qo xs' (.dat d) (.dat (firstM p).d) d12 d13 d14 d15 d16 d17 d18 c19) (by
      unfold e5
      generalize p.d = PD at *
      simp [lw_1_9_1, f1, isDr])]
    exact t3) ⟨a, b, [], c10, c11, c12, c13, c14, c15, c16, c17, c18, rfl, ⟨by simp, fun x hx => nomatch hx⟩, hn⟩
  refine ⟨a', b', xs', d10, d11, d12, d13, d14, d15, d16, d17, d18, h3, h4, ?_⟩
  unfold lw_1_9
  generalize lw_1_9_b = B at *
  unfold e5 at *
  simp [h1]
/-! the first runs with a gap -/
theorem cut_mem {α : Type} {xs : List α} {l h : Option Int} {x : α} (hx : x ∈ cutD xs l h) : x ∈ xs := List.mem_of_mem_drop (List.mem_of_mem_take hx)
theorem sort_so {xs : SL} (hl : xs.length < 64) : sortKE [.dict (soD xs)] = some (.list ((sortI (xs.map (·.1))).map .int)) := by
  cases xs with
  | nil =>
    have : sortI [] = [] := List.mergeSort_nil
    show some (PyData.list []) = some (.list ((sortI []).map .int))
    rw [this]
    rfl
  | cons x xs =>
    have ki := ints_so (xs := x :: xs)
    show sortKD [.dict (soD (x :: xs))] = _
    have e : sortKD [.dict (soD (x :: xs))] = (keyInts (soD (x :: xs))).bind fun is => if is.length < 64 ∧ is ≠ [] then some (.list ((sortI is).map .int)) else none := rfl
    rw [e, ki]
    simp at hl
    simp [hl]
theorem no_last {x y z : Cell} {d : Dt} (h : noOwn [x, y, z] [0, 1, 2] = true) : noOwn [x, y, .dat d] [0, 1, 2] = true := by
  simp only [noOwn, List.all_cons, List.all_nil, Bool.and_eq_true] at h ⊢
  exact ⟨h.1, h.2.1, rfl, trivial⟩
theorem last_all (K : K05F p lo hi le qo) {xs : SL} (hx : SoOk p xs) {a b : Int} (hn : noOwn [c16, c17, c18] [0, 1, 2] = true) : ∃ d18 d19 : Cell, noOwn [c16, c17, d18] [0, 1, 2] = true ∧
    lw_1_10 (e5 S at_ a b p lo hi le qo xs c10 c11 c12 c13 c14 c15 c16 c17 c18 c19) = some (.nx (e5 S at_ a b p lo hi le qo xs c10 c11 c12 c13 c14 c15 c16 c17 d18 d19)) := by
  have size : sizeLine = 16777216 := rfl
  have fl := hx.few K.hp
  have so := sort_so (xs := xs) (by omega)
  have inn : ∀ x ∈ (sortI (xs.map (·.1))).map PyData.int, ∃ g t, (g, t) ∈ xs ∧ x = .int g := fun x h => by
    obtain ⟨g, hg, rfl⟩ := List.mem_map.mp h
    have := (sortI_perm (xs.map (·.1))).mem_iff.mp hg
    obtain ⟨y, hy, rfl⟩ := List.mem_map.mp this
    exact ⟨y.1, y.2, hy, rfl⟩
  generalize hL : (sortI (xs.map (·.1))).map PyData.int = L at *
  obtain ⟨e', h1, d18, d19, rfl, hn'⟩ := forF_inv (g := gN 18) (b := lw_1_10_b)
    (fun e => ∃ d18 d19 : Cell, e = e5 S at_ a b p lo hi le qo xs c10 c11 c12 c13 c14 c15 c16 c17 d18 d19 ∧ noOwn [c16, c17, d18] [0, 1, 2] = true)
    (ds := cutD L none (some 2) ++ cutD L (some (-1)) none) (e := e5 S at_ a b p lo hi le qo xs c10 c11 c12 c13 c14 c15 c16 c17 c18 c19) (by
    rintro d hd e ⟨d18, d19, rfl, hn'⟩
    have hm : d ∈ L := (List.mem_append.mp hd).elim cut_mem cut_mem
    obtain ⟨g, t0, ht0, rfl⟩ := inn d hm
    obtain ⟨t, ht⟩ := getS_in (xs := xs) (g := g) (List.mem_map.mpr ⟨_, ht0, rfl⟩)
    obtain ⟨m, e1, v, hv, c, hc, hg⟩ := hx.r _ (getS_mem ht)
    simp only at e1 hg
    subst e1
    have bd := gapsT_bd K.hp (keys_inv K.hp (re_key K.hp hv)) hg
    obtain ⟨r, r1, r2⟩ := first_short K.hp hv hc hg
    have fg := first_gap_e K.hp bd.1 (by omega : g ≤ 40)
    rw [r1] at fg
    have ok := ok_so (xs := xs)
    have gs : getP (soD xs) (.int g) = some (.int m) := by rw [get_so, ht]; rfl
    refine ⟨_, _, rfl, ?_, .dat (.int g), .dat (runD r), rfl, no_last hn'⟩
    have fg' : F_first_gap [p.d, .int g] = some (runD r, []) := fg
    have rl : lenG [runD r] = some (.int r.length) := by
      show lenG [.tuple (r.map prD)] = _
      simp
    have rn : noneD (runD r) = false := rfl
    have cmp : ¬ (m : Int) + 1 < r.length := by omega
    unfold e5
    generalize soD xs = X at *
    generalize runD r = R at *
    generalize p.d = PD at *
    generalize oD qo = Q at *
    generalize (waitsM p).map PyData.int = W at *
    simp [lw_1_10_b, lw_1_10_1, lw_1_10_2, fg', isDr, ok, keyOf, gs, rl, rn, cmp]) ⟨_, _, rfl, hn⟩
  refine ⟨d18, d19, hn', ?_⟩
  unfold lw_1_10
  have l1 : (cutD L none (some 2)).length + (cutD L (some (-1)) none).length ≤ 16777216 := by
    have a1 : (cutD L none (some 2)).length ≤ L.length := by unfold cutD; rw [List.length_take, List.length_drop]; omega
    have a2 : (cutD L (some (-1)) none).length ≤ L.length := by unfold cutD; rw [List.length_take, List.length_drop]; omega
    have a3 : L.length ≤ 39 := by rw [← hL]; simpa [sortI] using fl
    omega
  generalize lw_1_10_b = B at *
  unfold e5 at *
  generalize soD xs = X at *
  simp [so, l1, size, h1]
end
end Pf

set_option Elab.async false
set_option linter.all false
set_option maxRecDepth 100000
set_option maxHeartbeats 4000000
namespace Pf
open PySem L2 DL DL.Ev
theorem gap_less {least : Int} {p : PV} {v : SV} {c : ChM} (h : lessB least (goneM p v c) = true) : ∃ g ∈ gapsT p v c, g < least := by
  unfold lessB at h
  obtain ⟨b, hb, hb'⟩ := List.any_eq_true.mp h
  obtain ⟨t, ht, rfl⟩ := List.mem_map.mp hb
  cases ho : t.2.2 with
  | none => rw [ho] at hb'; cases hb'
  | some g =>
    rw [ho] at hb'
    refine ⟨g, ?_, by simpa [lowB] using hb'⟩
    unfold gapsT
    exact List.mem_filterMap.mpr ⟨t, ht, ho⟩
theorem settled_zero {p : PV} {fs : List (SV × Int)} {least : Int} (h : ∀ g ∈ gapsAll p, least ≤ g) : settledM p fs least = some 0 := by
  have all : ∀ (xs : List (SV × ChM)), (∀ e ∈ xs, e ∈ edgesM p) → xs.foldl (stE p fs least) (some 0) = some 0 := by
    intro xs
    induction xs with
    | nil => intro _; rfl
    | cons e xs ih =>
      intro he
      rw [List.foldl_cons]
      have : stE p fs least (some 0) e = some 0 := by
        unfold stE
        rw [if_neg]
        intro z
        obtain ⟨g, hg, hl⟩ := gap_less z
        have := he e (by simp)
        have := h g (gapsAll_mem.mpr ⟨e.1, (edges_mem.mp this).1, e.2, (edges_mem.mp this).2, hg⟩)
        omega
      rw [this]
      exact ih fun x hx => he x (by simp [hx])
  exact all _ fun _ z => z

theorem no_one {x y z : Cell} (h : noOwn [x, y, z] [0, 1, 2] = true) : noOwn [y] [0] = true := by
  simp only [noOwn, List.all_cons, List.all_nil, Bool.and_eq_true] at h ⊢
  exact ⟨h.2.1, trivial⟩
theorem body_e {ns : List Int} {at_ : Int} {c2 c3 c4 c5 c6 c7 c8 c9 c10 c11 c12 c13 c14 c15 c16 c17 c18 c19 : Cell} (ha : 0 ≤ at_) (hn : noOwn [c16, c17, c18] [0, 1, 2] = true) :
    ∃ d2 d3 d4 d5 d6 d7 d8 d9 d10 d11 d12 d13 d14 d15 d16 d17 d18 d19 : Cell, noOwn [d16, d17, d18] [0, 1, 2] = true ∧
    lw_1_b [.dat (scrD (ns.map .int)), .dat (.int at_), c2, c3, c4, c5, c6, c7, c8, c9, c10, c11, c12, c13, c14, c15, c16, c17, c18, c19]
      = some (.nx [.dat (scrD (ns.map .int)), .dat (.int at_), d2, d3, d4, d5, d6, d7, d8, d9, d10, d11, d12, d13, d14, d15, d16, d17, d18, d19]) := by
  have size : sizeLine = 16777216 := rfl
  obtain ⟨a, b, hs⟩ := spring_e (script := ns) ha
  obtain ⟨a1, b1, p, hpl, hp, hpn⟩ := plan_e a b (stops := 2) (by omega) (by omega)
  obtain ⟨a2, b2, d, hpk, l2, u2⟩ := pick_e a1 b1 (n := 2) (by omega) (by omega)
  have n2 : p.n = 2 := by have := hp.n2; omega
  have g1 := gaps_e hp
  have lo := lo_is hp
  have hi := hi_is hp
  have lb := gapsAll_bd hp lo.1
  obtain ⟨fs, s1, s2⟩ := settled_by_e hp (loM p + 1 + d)
  have s3 := settles_e hp (by omega) (by omega) s1
  have z0 : F_settles [p.d, .int (loM p)] = some (.int 0, []) := by
    obtain ⟨fs', a', _⟩ := settled_by_e hp (loM p)
    rw [settled_zero lo.2.1] at a'
    exact settles_e hp (by omega) (by omega) a'
  have K : K05F p (loM p) (hiM p) (loM p + 1 + d) (settledM p fs (loM p + 1 + d)) := ⟨hp, fun g hg => ⟨lo.2.1 g hg, hi.2.1 g hg⟩, fun m v c g q hv hc hg hq hl => quiet_ok hp s2 hq hv hc hg hl⟩
  generalize scrD (ns.map .int) = S at *
  have lg : ∀ st : Nat, st < 2 → F_longest_wait [p.d, .int st] = some (.int ((waitsM p).getD st 0), []) := fun st hst => longest_e hp (s := st) (by omega)
  have wl := waits_len (p := p)
  have wm : (List.range 2).map (fun i : Nat => PyData.int ((waitsM p).getD i 0)) = (waitsM p).map .int := by
    rw [n2] at wl
    obtain ⟨x, y, e⟩ : ∃ x y, waitsM p = [x, y] := by
      cases h : waitsM p with
      | nil => rw [h] at wl; cases wl
      | cons x xs =>
        cases xs with
        | nil => rw [h] at wl; cases wl
        | cons y ys =>
          cases ys with
          | nil => exact ⟨x, y, rfl⟩
          | cons _ _ => rw [h] at wl; simp at wl
    rw [e]
    rfl
  have lc : ∀ c2 c6 c7 c8 c9 : Cell, ∀ lo hi : Int, lcF (gN 17) yesT (cl0 F_longest_wait (aC (xV 3) (aC (xV 17) aN))) [17] (rngD 0 2) [.dat S, .dat (.int at_), c2, .dat p.d, .dat (.int lo), .dat (.int hi), c6, c7, c8, c9, c10, c11, c12, c13, c14, c15, c16, .un, c18, c19]
      = some ((waitsM p).map .int, [.dat S, .dat (.int at_), c2, .dat p.d, .dat (.int lo), .dat (.int hi), c6, c7, c8, c9, c10, c11, c12, c13, c14, c15, c16, .un, c18, c19]) := fun c2 c6 c7 c8 c9 lo hi => by
    have e : rngD 0 2 = (List.range 2).map fun i : Nat => PyData.int (0 + (i : Int)) := rfl
    rw [e, lcF_on (fun (i : Nat) => PyData.int (0 + (i : Int))) (fun _ => true) (fun i => .int ((waitsM p).getD i 0)), List.filter_eq_self.mpr (by simp), wm]
    intro i hi'
    have e := lg i (by simpa using hi')
    refine ⟨[.dat S, .dat (.int at_), c2, .dat p.d, .dat (.int lo), .dat (.int hi), c6, c7, c8, c9, c10, c11, c12, c13, c14, c15, c16, .dat (.int (0 + (i : Int))), c18, c19], rfl, rfl, fun _ => ?_, by simp [noOwn], by simp [wipeE]⟩
    rw [Int.zero_add]
    generalize p.d = PD at *
    simp [e, isDr]
  obtain ⟨a3, b3, xs, d10, d11, d12, d13, d14, d15, d16, d17, d18, x1, x2, x3⟩ := runs_all (S := S) (at_ := at_) (c10 := c10) (c11 := c11) (c12 := c12) (c13 := c13) (c14 := c14) (c15 := c15) (c16 := c16) (c17 := c17) (c18 := c18) (c19 := c19) K (a := a2) (b := b2) hn
  obtain ⟨y18, y19, yn, y⟩ := last_all (S := S) (at_ := at_) (c10 := d10) (c11 := d11) (c12 := d12) (c13 := d13) (c14 := d14) (c15 := d15) (c16 := d16) (c17 := d17) (c18 := d18) (c19 := c19) K x1 (a := a3) (b := b3) x2
  refine ⟨.own (spr a3 b3), .dat p.d, .dat (.int (loM p)), .dat (.int (hiM p)), .dat (.list ((waitsM p).map .int)), .dat (.int (loM p + 1 + d)), .dat (oD (settledM p fs (loM p + 1 + d))), .own (.dict (soD xs)), d10, d11, d12, d13, d14, d15, d16, d17, y18, y19, yn, ?_⟩
  have hn1 := no_one hn
  have nn : ∀ c0 c1 c2 c3 c4 c5 c6 c7 c8 c9 : Cell, noOwn [c0, c1, c2, c3, c4, c5, c6, c7, c8, c9, c10, c11, c12, c13, c14, c15, c16, c17, c18, c19] [17] = true := fun _ _ _ _ _ _ _ _ _ _ => by
    simp only [noOwn, List.all_cons, List.all_nil] at hn1 ⊢
    exact hn1
  unfold lw_1_b
  unfold e5 at x3 y
  generalize lw_1_9 = L9 at *
  generalize lw_1_10 = L10 at *
  generalize p.d = PD at *
  generalize (waitsM p).map PyData.int = W at *
  generalize oD (settledM p fs (loM p + 1 + d)) = Q at *
  rw [sq_ok (e1 := [.dat S, .dat (.int at_), .own (spr a b), c3, c4, c5, c6, c7, c8, c9, c10, c11, c12, c13, c14, c15, c16, c17, c18, c19]) (by simp [lw_1_1, hs])]
  rw [sq_ok (e1 := [.dat S, .dat (.int at_), .own (spr a1 b1), .dat PD, c4, c5, c6, c7, c8, c9, c10, c11, c12, c13, c14, c15, c16, c17, c18, c19]) (by simp [lw_1_2, hpl])]
  rw [sq_ok (e1 := [.dat S, .dat (.int at_), .own (spr a1 b1), .dat PD, .dat (.int (loM p)), .dat (.int (hiM p)), c6, c7, c8, c9, c10, c11, c12, c13, c14, c15, c16, c17, c18, c19]) (by simp [lw_1_3, g1, isDr])]
  rw [sq_ok (e1 := [.dat S, .dat (.int at_), .own (spr a1 b1), .dat PD, .dat (.int (loM p)), .dat (.int (hiM p)), .dat (.list W), c7, c8, c9, c10, c11, c12, c13, c14, c15, c16, c17, c18, c19]) (by simp [lw_1_4, nn, wipeE, backE, lc])]
  rw [sq_ok (e1 := [.dat S, .dat (.int at_), .own (spr a2 b2), .dat PD, .dat (.int (loM p)), .dat (.int (hiM p)), .dat (.list W), .dat (.int (loM p + 1 + d)), c8, c9, c10, c11, c12, c13, c14, c15, c16, c17, c18, c19]) (by simp [lw_1_5, hpk])]
  rw [sq_ok (e1 := [.dat S, .dat (.int at_), .own (spr a2 b2), .dat PD, .dat (.int (loM p)), .dat (.int (hiM p)), .dat (.list W), .dat (.int (loM p + 1 + d)), .dat Q, c9, c10, c11, c12, c13, c14, c15, c16, c17, c18, c19]) (by simp [lw_1_6, s3, isDr])]
  rw [sq_ok (e1 := [.dat S, .dat (.int at_), .own (spr a2 b2), .dat PD, .dat (.int (loM p)), .dat (.int (hiM p)), .dat (.list W), .dat (.int (loM p + 1 + d)), .dat Q, c9, c10, c11, c12, c13, c14, c15, c16, c17, c18, c19]) (by simp [lw_1_7, z0, isDr])]
  have hnd : ∀ e : En, newD e = some (.dict [], e) := fun _ => rfl
  have sn : soD [] = [] := rfl
  rw [sn] at x3
  rw [sq_ok (e1 := [.dat S, .dat (.int at_), .own (spr a2 b2), .dat PD, .dat (.int (loM p)), .dat (.int (hiM p)), .dat (.list W), .dat (.int (loM p + 1 + d)), .dat Q, .own (.dict []), c10, c11, c12, c13, c14, c15, c16, c17, c18, c19]) (by simp [lw_1_8, hnd])]
  rw [sq_ok x3]
  exact y
theorem law_true (ns : List Int) (h : ns.length ≤ 63) : F_law [scrD (ns.map .int)] = some (.bool true, []) := by
  obtain ⟨e', h1, c1, c2, c3, c4, c5, c6, c7, c8, c9, c10, c11, c12, c13, c14, c15, c16, c17, c18, c19, rfl, _⟩ := forF_inv (g := gN 1) (b := lw_1_b)
    (fun e => ∃ c1 c2 c3 c4 c5 c6 c7 c8 c9 c10 c11 c12 c13 c14 c15 c16 c17 c18 c19 : Cell, e = [.dat (scrD (ns.map .int)), c1, c2, c3, c4, c5, c6, c7, c8, c9, c10, c11, c12, c13, c14, c15, c16, c17, c18, c19] ∧ noOwn [c16, c17, c18] [0, 1, 2] = true)
    (ds := rngD 0 ((if 3 < (ns.length : Int) then 3 else (ns.length : Int)) + 1).toNat) (e := [.dat (scrD (ns.map .int)), .un, .un, .un, .un, .un, .un, .un, .un, .un, .un, .un, .un, .un, .un, .un, .un, .un, .un, .un]) (by
      rintro d hd e ⟨c1, c2, c3, c4, c5, c6, c7, c8, c9, c10, c11, c12, c13, c14, c15, c16, c17, c18, c19, rfl, hn⟩
      unfold rngD at hd
      simp only [List.mem_map, List.mem_range] at hd
      obtain ⟨i, _, rfl⟩ := hd
      obtain ⟨d2, d3, d4, d5, d6, d7, d8, d9, d10, d11, d12, d13, d14, d15, d16, d17, d18, d19, hn', hb⟩ := body_e (ns := ns) (at_ := 0 + (i : Int)) (c2 := c2) (c3 := c3) (c4 := c4) (c5 := c5) (c6 := c6) (c7 := c7) (c8 := c8) (c9 := c9) (c10 := c10) (c11 := c11) (c12 := c12) (c13 := c13) (c14 := c14) (c15 := c15) (c16 := c16) (c17 := c17) (c18 := c18) (c19 := c19) (by omega) hn
      exact ⟨_, _, rfl, hb, _, _, _, _, _, _, _, _, _, _, _, _, _, _, _, _, _, _, d19, rfl, hn'⟩) ⟨_, _, _, _, _, _, _, _, _, _, _, _, _, _, _, _, _, _, _, rfl, by simp [noOwn]⟩
  have k2 : ((if 3 < (ns.length : Int) then 3 else (ns.length : Int)) + 1) ≤ 1000000 := by split <;> omega
  have k3 : -1000000 ≤ ((if 3 < (ns.length : Int) then 3 else (ns.length : Int)) + 1) := by split <;> omega
  unfold F_law
  rw [lw_is]
  unfold lw_b lw_1
  generalize lw_1_b = B at *
  simp [iniE, ownsE, lw_2, k2, k3, h1]
end Pf

set_option Elab.async false
set_option linter.all false
set_option maxRecDepth 100000
set_option maxHeartbeats 4000000
namespace Pf
open PySem L2 DL
section
variable {P : Program} {w : World} {K : PySem.W.Frag} {mg : Str → Option Value} {base : Heap}
def spLaw (K : PySem.W.Frag) : Sp := fun vs H Q _ => ∃ (a : Addr) (ns : List Int), vs = [.ref a] ∧ SqL K H a (ns.map V.int) ∧ ns.length ≤ 63 ∧ ∀ H', Q (.bl true) H'
theorem all_mk {h : Heap} {fa : Addr} (X : K.In h) (G : h.Ns mainGlobals mg) (hfa : mg "law" = some (.ref fa))
    {f0 : Addr} {od0 an0 : Option Addr} {sl0 : Array (Option Value)} {oc0 kV0 dc0 pm0 cd0 ct0 : Value}
    {f1 : Addr} {od1 an1 : Option Addr} {sl1 : Array (Option Value)} {oc1 kV1 dc1 pm1 cd1 ct1 : Value}
    {f2 : Addr} {od2 an2 : Option Addr} {sl2 : Array (Option Value)} {oc2 kV2 dc2 pm2 cd2 ct2 : Value}
    {f3 : Addr} {od3 an3 : Option Addr} {sl3 : Array (Option Value)} {oc3 kV3 dc3 pm3 cd3 ct3 : Value}
    {f4 : Addr} {od4 an4 : Option Addr} {sl4 : Array (Option Value)} {oc4 kV4 dc4 pm4 cd4 ct4 : Value}
    {f5 : Addr} {od5 an5 : Option Addr} {sl5 : Array (Option Value)} {oc5 kV5 dc5 pm5 cd5 ct5 : Value}
    {f6 : Addr} {od6 an6 : Option Addr} {sl6 : Array (Option Value)} {oc6 kV6 dc6 pm6 cd6 ct6 : Value}
    {f7 : Addr} {od7 an7 : Option Addr} {sl7 : Array (Option Value)} {oc7 kV7 dc7 pm7 cd7 ct7 : Value}
    {f8 : Addr} {od8 an8 : Option Addr} {sl8 : Array (Option Value)} {oc8 kV8 dc8 pm8 cd8 ct8 : Value}
    {f9 : Addr} {od9 an9 : Option Addr} {sl9 : Array (Option Value)} {oc9 kV9 dc9 pm9 cd9 ct9 : Value}
    {f10 : Addr} {od10 an10 : Option Addr} {sl10 : Array (Option Value)} {oc10 kV10 dc10 pm10 cd10 ct10 : Value}
    {f11 : Addr} {od11 an11 : Option Addr} {sl11 : Array (Option Value)} {oc11 kV11 dc11 pm11 cd11 ct11 : Value}
    {f12 : Addr} {od12 an12 : Option Addr} {sl12 : Array (Option Value)} {oc12 kV12 dc12 pm12 cd12 ct12 : Value}
    {f13 : Addr} {od13 an13 : Option Addr} {sl13 : Array (Option Value)} {oc13 kV13 dc13 pm13 cd13 ct13 : Value}
    {f14 : Addr} {od14 an14 : Option Addr} {sl14 : Array (Option Value)} {oc14 kV14 dc14 pm14 cd14 ct14 : Value}
    {f15 : Addr} {od15 an15 : Option Addr} {sl15 : Array (Option Value)} {oc15 kV15 dc15 pm15 cd15 ct15 : Value}
    {f16 : Addr} {od16 an16 : Option Addr} {sl16 : Array (Option Value)} {oc16 kV16 dc16 pm16 cd16 ct16 : Value}
    {f17 : Addr} {od17 an17 : Option Addr} {sl17 : Array (Option Value)} {oc17 kV17 dc17 pm17 cd17 ct17 : Value}
    {f18 : Addr} {od18 an18 : Option Addr} {sl18 : Array (Option Value)} {oc18 kV18 dc18 pm18 cd18 ct18 : Value}
    {f19 : Addr} {od19 an19 : Option Addr} {sl19 : Array (Option Value)} {oc19 kV19 dc19 pm19 cd19 ct19 : Value}
    {f20 : Addr} {od20 an20 : Option Addr} {sl20 : Array (Option Value)} {oc20 kV20 dc20 pm20 cd20 ct20 : Value}
    {f21 : Addr} {od21 an21 : Option Addr} {sl21 : Array (Option Value)} {oc21 kV21 dc21 pm21 cd21 ct21 : Value}
    {f22 : Addr} {od22 an22 : Option Addr} {sl22 : Array (Option Value)} {oc22 kV22 dc22 pm22 cd22 ct22 : Value}
    {f23 : Addr} {od23 an23 : Option Addr} {sl23 : Array (Option Value)} {oc23 kV23 dc23 pm23 cd23 ct23 : Value}
    {f24 : Addr} {od24 an24 : Option Addr} {sl24 : Array (Option Value)} {oc24 kV24 dc24 pm24 cd24 ct24 : Value}
    {f25 : Addr} {od25 an25 : Option Addr} {sl25 : Array (Option Value)} {oc25 kV25 dc25 pm25 cd25 ct25 : Value}
    {f26 : Addr} {od26 an26 : Option Addr} {sl26 : Array (Option Value)} {oc26 kV26 dc26 pm26 cd26 ct26 : Value}
    {f27 : Addr} {od27 an27 : Option Addr} {sl27 : Array (Option Value)} {oc27 kV27 dc27 pm27 cd27 ct27 : Value}
    {f28 : Addr} {od28 an28 : Option Addr} {sl28 : Array (Option Value)} {oc28 kV28 dc28 pm28 cd28 ct28 : Value}
    {f29 : Addr} {od29 an29 : Option Addr} {sl29 : Array (Option Value)} {oc29 kV29 dc29 pm29 cd29 ct29 : Value}
    {f30 : Addr} {od30 an30 : Option Addr} {sl30 : Array (Option Value)} {oc30 kV30 dc30 pm30 cd30 ct30 : Value}
    {f31 : Addr} {od31 an31 : Option Addr} {sl31 : Array (Option Value)} {oc31 kV31 dc31 pm31 cd31 ct31 : Value}
    {f32 : Addr} {od32 an32 : Option Addr} {sl32 : Array (Option Value)} {oc32 kV32 dc32 pm32 cd32 ct32 : Value}
    {f33 : Addr} {od33 an33 : Option Addr} {sl33 : Array (Option Value)} {oc33 kV33 dc33 pm33 cd33 ct33 : Value}
    {f34 : Addr} {od34 an34 : Option Addr} {sl34 : Array (Option Value)} {oc34 kV34 dc34 pm34 cd34 ct34 : Value}
    {f35 : Addr} {od35 an35 : Option Addr} {sl35 : Array (Option Value)} {oc35 kV35 dc35 pm35 cd35 ct35 : Value}
    {t_x_HOLDS_0_1 : Tok}
    {t_x_HOLDS_0_2 : Tok}
    {t_x_HOLDS_0_3 : Tok}
    {x_HOLDS_0 : Addr} {oc_x_HOLDS_0 : Option Addr} {n_x_HOLDS_0 : Nat} {sl_x_HOLDS_0 : Array (Option Value)}
    {t_x_HOLDS_4_5 : Tok}
    {t_x_HOLDS_4_6 : Tok}
    {t_x_HOLDS_4_7 : Tok}
    {x_HOLDS_4 : Addr} {oc_x_HOLDS_4 : Option Addr} {n_x_HOLDS_4 : Nat} {sl_x_HOLDS_4 : Array (Option Value)}
    {t_x_HOLDS_8_9 : Tok}
    {t_x_HOLDS_8_10 : Tok}
    {t_x_HOLDS_8_11 : Tok}
    {x_HOLDS_8 : Addr} {oc_x_HOLDS_8 : Option Addr} {n_x_HOLDS_8 : Nat} {sl_x_HOLDS_8 : Array (Option Value)}
    {t_x_HOLDS_12_13 : Tok}
    {t_x_HOLDS_12_14 : Tok}
    {t_x_HOLDS_12_15 : Tok}
    {x_HOLDS_12 : Addr} {oc_x_HOLDS_12 : Option Addr} {n_x_HOLDS_12 : Nat} {sl_x_HOLDS_12 : Array (Option Value)}
    {x_HOLDS : Addr} {oc_x_HOLDS : Option Addr} {n_x_HOLDS : Nat} {sl_x_HOLDS : Array (Option Value)}
    {t_RIDES : Tok}
    {t_STAYS : Tok}
    {t_HELD : Tok}
    (a0 : PySem.W.nsIn K mainGlobals "is_within" = some (some (.ref f0)))
    (l0 : K.lookup f0 = some ⟨oc0, od0, .func (PySem.W.fnOf "is_within" "is_within" (defArgs s_is_within) (defBody s_is_within) (defScope s_is_within) .none kV0 dc0 pm0 an0 cd0 ct0), sl0⟩)
    (c0 : PySem.W.codeIn K cd0 "is_within" = true)
    (k0 : PySem.W.keepIn K (.ref f0) = true)
    (a1 : PySem.W.nsIn K mainGlobals "is_row" = some (some (.ref f1)))
    (l1 : K.lookup f1 = some ⟨oc1, od1, .func (PySem.W.fnOf "is_row" "is_row" (defArgs s_is_row) (defBody s_is_row) (defScope s_is_row) .none kV1 dc1 pm1 an1 cd1 ct1), sl1⟩)
    (c1 : PySem.W.codeIn K cd1 "is_row" = true)
    (k1 : PySem.W.keepIn K (.ref f1) = true)
    (a2 : PySem.W.nsIn K mainGlobals "is_span" = some (some (.ref f2)))
    (l2 : K.lookup f2 = some ⟨oc2, od2, .func (PySem.W.fnOf "is_span" "is_span" (defArgs s_is_span) (defBody s_is_span) (defScope s_is_span) .none kV2 dc2 pm2 an2 cd2 ct2), sl2⟩)
    (c2 : PySem.W.codeIn K cd2 "is_span" = true)
    (k2 : PySem.W.keepIn K (.ref f2) = true)
    (a3 : PySem.W.nsIn K mainGlobals "is_hold" = some (some (.ref f3)))
    (l3 : K.lookup f3 = some ⟨oc3, od3, .func (PySem.W.fnOf "is_hold" "is_hold" (defArgs s_is_hold) (defBody s_is_hold) (defScope s_is_hold) .none kV3 dc3 pm3 an3 cd3 ct3), sl3⟩)
    (c3 : PySem.W.codeIn K cd3 "is_hold" = true)
    (k3 : PySem.W.keepIn K (.ref f3) = true)
    (a4 : PySem.W.nsIn K mainGlobals "is_plan" = some (some (.ref f4)))
    (l4 : K.lookup f4 = some ⟨oc4, od4, .func (PySem.W.fnOf "is_plan" "is_plan" (defArgs s_is_plan) (defBody s_is_plan) (defScope s_is_plan) .none kV4 dc4 pm4 an4 cd4 ct4), sl4⟩)
    (c4 : PySem.W.codeIn K cd4 "is_plan" = true)
    (k4 : PySem.W.keepIn K (.ref f4) = true)
    (a5 : PySem.W.nsIn K mainGlobals "look_at_plan" = some (some (.ref f5)))
    (l5 : K.lookup f5 = some ⟨oc5, od5, .func (PySem.W.fnOf "look_at_plan" "look_at_plan" (defArgs s_look_at_plan) (defBody s_look_at_plan) (defScope s_look_at_plan) .none kV5 dc5 pm5 an5 cd5 ct5), sl5⟩)
    (c5 : PySem.W.codeIn K cd5 "look_at_plan" = true)
    (k5 : PySem.W.keepIn K (.ref f5) = true)
    (a6 : PySem.W.nsIn K mainGlobals "look_at_stop" = some (some (.ref f6)))
    (l6 : K.lookup f6 = some ⟨oc6, od6, .func (PySem.W.fnOf "look_at_stop" "look_at_stop" (defArgs s_look_at_stop) (defBody s_look_at_stop) (defScope s_look_at_stop) .none kV6 dc6 pm6 an6 cd6 ct6), sl6⟩)
    (c6 : PySem.W.codeIn K cd6 "look_at_stop" = true)
    (k6 : PySem.W.keepIn K (.ref f6) = true)
    (a7 : PySem.W.nsIn K mainGlobals "look_at_number" = some (some (.ref f7)))
    (l7 : K.lookup f7 = some ⟨oc7, od7, .func (PySem.W.fnOf "look_at_number" "look_at_number" (defArgs s_look_at_number) (defBody s_look_at_number) (defScope s_look_at_number) .none kV7 dc7 pm7 an7 cd7 ct7), sl7⟩)
    (c7 : PySem.W.codeIn K cd7 "look_at_number" = true)
    (k7 : PySem.W.keepIn K (.ref f7) = true)
    (a8 : PySem.W.nsIn K mainGlobals "begin_of" = some (some (.ref f8)))
    (l8 : K.lookup f8 = some ⟨oc8, od8, .func (PySem.W.fnOf "begin_of" "begin_of" (defArgs s_begin_of) (defBody s_begin_of) (defScope s_begin_of) .none kV8 dc8 pm8 an8 cd8 ct8), sl8⟩)
    (c8 : PySem.W.codeIn K cd8 "begin_of" = true)
    (k8 : PySem.W.keepIn K (.ref f8) = true)
    (a9 : PySem.W.nsIn K mainGlobals "ways_of" = some (some (.ref f9)))
    (l9 : K.lookup f9 = some ⟨oc9, od9, .func (PySem.W.fnOf "ways_of" "ways_of" (defArgs s_ways_of) (defBody s_ways_of) (defScope s_ways_of) .none kV9 dc9 pm9 an9 cd9 ct9), sl9⟩)
    (c9 : PySem.W.codeIn K cd9 "ways_of" = true)
    (k9 : PySem.W.keepIn K (.ref f9) = true)
    (a10 : PySem.W.nsIn K mainGlobals "choices_of" = some (some (.ref f10)))
    (l10 : K.lookup f10 = some ⟨oc10, od10, .func (PySem.W.fnOf "choices_of" "choices_of" (defArgs s_choices_of) (defBody s_choices_of) (defScope s_choices_of) .none kV10 dc10 pm10 an10 cd10 ct10), sl10⟩)
    (c10 : PySem.W.codeIn K cd10 "choices_of" = true)
    (k10 : PySem.W.keepIn K (.ref f10) = true)
    (a11 : PySem.W.nsIn K mainGlobals "gap_of" = some (some (.ref f11)))
    (l11 : K.lookup f11 = some ⟨oc11, od11, .func (PySem.W.fnOf "gap_of" "gap_of" (defArgs s_gap_of) (defBody s_gap_of) (defScope s_gap_of) .none kV11 dc11 pm11 an11 cd11 ct11), sl11⟩)
    (c11 : PySem.W.codeIn K cd11 "gap_of" = true)
    (k11 : PySem.W.keepIn K (.ref f11) = true)
    (a12 : PySem.W.nsIn K mainGlobals "stay_of" = some (some (.ref f12)))
    (l12 : K.lookup f12 = some ⟨oc12, od12, .func (PySem.W.fnOf "stay_of" "stay_of" (defArgs s_stay_of) (defBody s_stay_of) (defScope s_stay_of) .none kV12 dc12 pm12 an12 cd12 ct12), sl12⟩)
    (c12 : PySem.W.codeIn K cd12 "stay_of" = true)
    (k12 : PySem.W.keepIn K (.ref f12) = true)
    (a13 : PySem.W.nsIn K mainGlobals "held_for" = some (some (.ref f13)))
    (l13 : K.lookup f13 = some ⟨oc13, od13, .func (PySem.W.fnOf "held_for" "held_for" (defArgs s_held_for) (defBody s_held_for) (defScope s_held_for) .none kV13 dc13 pm13 an13 cd13 ct13), sl13⟩)
    (c13 : PySem.W.codeIn K cd13 "held_for" = true)
    (k13 : PySem.W.keepIn K (.ref f13) = true)
    (a14 : PySem.W.nsIn K mainGlobals "part_behind" = some (some (.ref f14)))
    (l14 : K.lookup f14 = some ⟨oc14, od14, .func (PySem.W.fnOf "part_behind" "part_behind" (defArgs s_part_behind) (defBody s_part_behind) (defScope s_part_behind) .none kV14 dc14 pm14 an14 cd14 ct14), sl14⟩)
    (c14 : PySem.W.codeIn K cd14 "part_behind" = true)
    (k14 : PySem.W.keepIn K (.ref f14) = true)
    (a15 : PySem.W.nsIn K mainGlobals "passed" = some (some (.ref f15)))
    (l15 : K.lookup f15 = some ⟨oc15, od15, .func (PySem.W.fnOf "passed" "passed" (defArgs s_passed) (defBody s_passed) (defScope s_passed) .none kV15 dc15 pm15 an15 cd15 ct15), sl15⟩)
    (c15 : PySem.W.codeIn K cd15 "passed" = true)
    (k15 : PySem.W.keepIn K (.ref f15) = true)
    (a16 : PySem.W.nsIn K mainGlobals "ways_by" = some (some (.ref f16)))
    (l16 : K.lookup f16 = some ⟨oc16, od16, .func (PySem.W.fnOf "ways_by" "ways_by" (defArgs s_ways_by) (defBody s_ways_by) (defScope s_ways_by) .none kV16 dc16 pm16 an16 cd16 ct16), sl16⟩)
    (c16 : PySem.W.codeIn K cd16 "ways_by" = true)
    (k16 : PySem.W.keepIn K (.ref f16) = true)
    (a17 : PySem.W.nsIn K mainGlobals "edges_by" = some (some (.ref f17)))
    (l17 : K.lookup f17 = some ⟨oc17, od17, .func (PySem.W.fnOf "edges_by" "edges_by" (defArgs s_edges_by) (defBody s_edges_by) (defScope s_edges_by) .none kV17 dc17 pm17 an17 cd17 ct17), sl17⟩)
    (c17 : PySem.W.codeIn K cd17 "edges_by" = true)
    (k17 : PySem.W.keepIn K (.ref f17) = true)
    (a18 : PySem.W.nsIn K mainGlobals "gaps_by" = some (some (.ref f18)))
    (l18 : K.lookup f18 = some ⟨oc18, od18, .func (PySem.W.fnOf "gaps_by" "gaps_by" (defArgs s_gaps_by) (defBody s_gaps_by) (defScope s_gaps_by) .none kV18 dc18 pm18 an18 cd18 ct18), sl18⟩)
    (c18 : PySem.W.codeIn K cd18 "gaps_by" = true)
    (k18 : PySem.W.keepIn K (.ref f18) = true)
    (a19 : PySem.W.nsIn K mainGlobals "waits_by" = some (some (.ref f19)))
    (l19 : K.lookup f19 = some ⟨oc19, od19, .func (PySem.W.fnOf "waits_by" "waits_by" (defArgs s_waits_by) (defBody s_waits_by) (defScope s_waits_by) .none kV19 dc19 pm19 an19 cd19 ct19), sl19⟩)
    (c19 : PySem.W.codeIn K cd19 "waits_by" = true)
    (k19 : PySem.W.keepIn K (.ref f19) = true)
    (a20 : PySem.W.nsIn K mainGlobals "gaps" = some (some (.ref f20)))
    (l20 : K.lookup f20 = some ⟨oc20, od20, .func (PySem.W.fnOf "gaps" "gaps" (defArgs s_gaps) (defBody s_gaps) (defScope s_gaps) .none kV20 dc20 pm20 an20 cd20 ct20), sl20⟩)
    (c20 : PySem.W.codeIn K cd20 "gaps" = true)
    (k20 : PySem.W.keepIn K (.ref f20) = true)
    (a21 : PySem.W.nsIn K mainGlobals "first_gap" = some (some (.ref f21)))
    (l21 : K.lookup f21 = some ⟨oc21, od21, .func (PySem.W.fnOf "first_gap" "first_gap" (defArgs s_first_gap) (defBody s_first_gap) (defScope s_first_gap) .none kV21 dc21 pm21 an21 cd21 ct21), sl21⟩)
    (c21 : PySem.W.codeIn K cd21 "first_gap" = true)
    (k21 : PySem.W.keepIn K (.ref f21) = true)
    (a22 : PySem.W.nsIn K mainGlobals "longest_wait" = some (some (.ref f22)))
    (l22 : K.lookup f22 = some ⟨oc22, od22, .func (PySem.W.fnOf "longest_wait" "longest_wait" (defArgs s_longest_wait) (defBody s_longest_wait) (defScope s_longest_wait) .none kV22 dc22 pm22 an22 cd22 ct22), sl22⟩)
    (c22 : PySem.W.codeIn K cd22 "longest_wait" = true)
    (k22 : PySem.W.keepIn K (.ref f22) = true)
    (a23 : PySem.W.nsIn K mainGlobals "times_by" = some (some (.ref f23)))
    (l23 : K.lookup f23 = some ⟨oc23, od23, .func (PySem.W.fnOf "times_by" "times_by" (defArgs s_times_by) (defBody s_times_by) (defScope s_times_by) .none kV23 dc23 pm23 an23 cd23 ct23), sl23⟩)
    (c23 : PySem.W.codeIn K cd23 "times_by" = true)
    (k23 : PySem.W.keepIn K (.ref f23) = true)
    (a24 : PySem.W.nsIn K mainGlobals "settled_by" = some (some (.ref f24)))
    (l24 : K.lookup f24 = some ⟨oc24, od24, .func (PySem.W.fnOf "settled_by" "settled_by" (defArgs s_settled_by) (defBody s_settled_by) (defScope s_settled_by) .none kV24 dc24 pm24 an24 cd24 ct24), sl24⟩)
    (c24 : PySem.W.codeIn K cd24 "settled_by" = true)
    (k24 : PySem.W.keepIn K (.ref f24) = true)
    (a25 : PySem.W.nsIn K mainGlobals "settles" = some (some (.ref f25)))
    (l25 : K.lookup f25 = some ⟨oc25, od25, .func (PySem.W.fnOf "settles" "settles" (defArgs s_settles) (defBody s_settles) (defScope s_settles) .none kV25 dc25 pm25 an25 cd25 ct25), sl25⟩)
    (c25 : PySem.W.codeIn K cd25 "settles" = true)
    (k25 : PySem.W.keepIn K (.ref f25) = true)
    (a26 : PySem.W.nsIn K mainGlobals "_law_spring" = some (some (.ref f26)))
    (l26 : K.lookup f26 = some ⟨oc26, od26, .func (PySem.W.fnOf "_law_spring" "_law_spring" (defArgs s_law_spring) (defBody s_law_spring) (defScope s_law_spring) .none kV26 dc26 pm26 an26 cd26 ct26), sl26⟩)
    (c26 : PySem.W.codeIn K cd26 "_law_spring" = true)
    (k26 : PySem.W.keepIn K (.ref f26) = true)
    (a27 : PySem.W.nsIn K mainGlobals "_law_pick" = some (some (.ref f27)))
    (l27 : K.lookup f27 = some ⟨oc27, od27, .func (PySem.W.fnOf "_law_pick" "_law_pick" (defArgs s_law_pick) (defBody s_law_pick) (defScope s_law_pick) .none kV27 dc27 pm27 an27 cd27 ct27), sl27⟩)
    (c27 : PySem.W.codeIn K cd27 "_law_pick" = true)
    (k27 : PySem.W.keepIn K (.ref f27) = true)
    (a28 : PySem.W.nsIn K mainGlobals "_law_plan" = some (some (.ref f28)))
    (l28 : K.lookup f28 = some ⟨oc28, od28, .func (PySem.W.fnOf "_law_plan" "_law_plan" (defArgs s_law_plan) (defBody s_law_plan) (defScope s_law_plan) .none kV28 dc28 pm28 an28 cd28 ct28), sl28⟩)
    (c28 : PySem.W.codeIn K cd28 "_law_plan" = true)
    (k28 : PySem.W.keepIn K (.ref f28) = true)
    (a29 : PySem.W.nsIn K mainGlobals "_law_first" = some (some (.ref f29)))
    (l29 : K.lookup f29 = some ⟨oc29, od29, .func (PySem.W.fnOf "_law_first" "_law_first" (defArgs s_law_first) (defBody s_law_first) (defScope s_law_first) .none kV29 dc29 pm29 an29 cd29 ct29), sl29⟩)
    (c29 : PySem.W.codeIn K cd29 "_law_first" = true)
    (k29 : PySem.W.keepIn K (.ref f29) = true)
    (a30 : PySem.W.nsIn K mainGlobals "_law_options" = some (some (.ref f30)))
    (l30 : K.lookup f30 = some ⟨oc30, od30, .func (PySem.W.fnOf "_law_options" "_law_options" (defArgs s_law_options) (defBody s_law_options) (defScope s_law_options) .none kV30 dc30 pm30 an30 cd30 ct30), sl30⟩)
    (c30 : PySem.W.codeIn K cd30 "_law_options" = true)
    (k30 : PySem.W.keepIn K (.ref f30) = true)
    (a31 : PySem.W.nsIn K mainGlobals "_law_choices" = some (some (.ref f31)))
    (l31 : K.lookup f31 = some ⟨oc31, od31, .func (PySem.W.fnOf "_law_choices" "_law_choices" (defArgs s_law_choices) (defBody s_law_choices) (defScope s_law_choices) .none kV31 dc31 pm31 an31 cd31 ct31), sl31⟩)
    (c31 : PySem.W.codeIn K cd31 "_law_choices" = true)
    (k31 : PySem.W.keepIn K (.ref f31) = true)
    (a32 : PySem.W.nsIn K mainGlobals "_law_wait" = some (some (.ref f32)))
    (l32 : K.lookup f32 = some ⟨oc32, od32, .func (PySem.W.fnOf "_law_wait" "_law_wait" (defArgs s_law_wait) (defBody s_law_wait) (defScope s_law_wait) .none kV32 dc32 pm32 an32 cd32 ct32), sl32⟩)
    (c32 : PySem.W.codeIn K cd32 "_law_wait" = true)
    (k32 : PySem.W.keepIn K (.ref f32) = true)
    (a33 : PySem.W.nsIn K mainGlobals "_law_moved" = some (some (.ref f33)))
    (l33 : K.lookup f33 = some ⟨oc33, od33, .func (PySem.W.fnOf "_law_moved" "_law_moved" (defArgs s_law_moved) (defBody s_law_moved) (defScope s_law_moved) .none kV33 dc33 pm33 an33 cd33 ct33), sl33⟩)
    (c33 : PySem.W.codeIn K cd33 "_law_moved" = true)
    (k33 : PySem.W.keepIn K (.ref f33) = true)
    (a34 : PySem.W.nsIn K mainGlobals "_law_tick" = some (some (.ref f34)))
    (l34 : K.lookup f34 = some ⟨oc34, od34, .func (PySem.W.fnOf "_law_tick" "_law_tick" (defArgs s_law_tick) (defBody s_law_tick) (defScope s_law_tick) .none kV34 dc34 pm34 an34 cd34 ct34), sl34⟩)
    (c34 : PySem.W.codeIn K cd34 "_law_tick" = true)
    (k34 : PySem.W.keepIn K (.ref f34) = true)
    (a35 : PySem.W.nsIn K mainGlobals "law" = some (some (.ref f35)))
    (l35 : K.lookup f35 = some ⟨oc35, od35, .func (PySem.W.fnOf "law" "law" (defArgs s_law) (defBody s_law) (defScope s_law) .none kV35 dc35 pm35 an35 cd35 ct35), sl35⟩)
    (c35 : PySem.W.codeIn K cd35 "law" = true)
    (k35 : PySem.W.keepIn K (.ref f35) = true)
    (z_abs : PySem.W.nsIn K mainGlobals "abs" = some none)
    (z_any : PySem.W.nsIn K mainGlobals "any" = some none)
    (z_bool : PySem.W.nsIn K mainGlobals "bool" = some none)
    (z_enumerate : PySem.W.nsIn K mainGlobals "enumerate" = some none)
    (z_int : PySem.W.nsIn K mainGlobals "int" = some none)
    (z_isinstance : PySem.W.nsIn K mainGlobals "isinstance" = some none)
    (z_len : PySem.W.nsIn K mainGlobals "len" = some none)
    (z_list : PySem.W.nsIn K mainGlobals "list" = some none)
    (z_max : PySem.W.nsIn K mainGlobals "max" = some none)
    (z_min : PySem.W.nsIn K mainGlobals "min" = some none)
    (z_range : PySem.W.nsIn K mainGlobals "range" = some none)
    (z_sorted : PySem.W.nsIn K mainGlobals "sorted" = some none)
    (z_str : PySem.W.nsIn K mainGlobals "str" = some none)
    (z_tuple : PySem.W.nsIn K mainGlobals "tuple" = some none)
    (h_x_HOLDS_0 : K.lookup x_HOLDS_0 = some ⟨.type "tuple", oc_x_HOLDS_0, .seq #[.str "none" t_x_HOLDS_0_1, .int 0 t_x_HOLDS_0_2, .int 0 t_x_HOLDS_0_3] n_x_HOLDS_0, sl_x_HOLDS_0⟩)
    (h_x_HOLDS_4 : K.lookup x_HOLDS_4 = some ⟨.type "tuple", oc_x_HOLDS_4, .seq #[.str "gap" t_x_HOLDS_4_5, .int 1 t_x_HOLDS_4_6, .int 6 t_x_HOLDS_4_7] n_x_HOLDS_4, sl_x_HOLDS_4⟩)
    (h_x_HOLDS_8 : K.lookup x_HOLDS_8 = some ⟨.type "tuple", oc_x_HOLDS_8, .seq #[.str "half" t_x_HOLDS_8_9, .int 1 t_x_HOLDS_8_10, .int 6 t_x_HOLDS_8_11] n_x_HOLDS_8, sl_x_HOLDS_8⟩)
    (h_x_HOLDS_12 : K.lookup x_HOLDS_12 = some ⟨.type "tuple", oc_x_HOLDS_12, .seq #[.str "beat" t_x_HOLDS_12_13, .int 2 t_x_HOLDS_12_14, .int 4 t_x_HOLDS_12_15] n_x_HOLDS_12, sl_x_HOLDS_12⟩)
    (h_x_HOLDS : K.lookup x_HOLDS = some ⟨.type "tuple", oc_x_HOLDS, .seq #[.ref x_HOLDS_0, .ref x_HOLDS_4, .ref x_HOLDS_8, .ref x_HOLDS_12] n_x_HOLDS, sl_x_HOLDS⟩)
    (e_HOLDS : PySem.W.nsIn K mainGlobals "HOLDS" = some (some (.ref x_HOLDS)))
    (e_RIDES : PySem.W.nsIn K mainGlobals "RIDES" = some (some (.str "rides" t_RIDES)))
    (e_STAYS : PySem.W.nsIn K mainGlobals "STAYS" = some (some (.str "stays" t_STAYS)))
    (e_HELD : PySem.W.nsIn K mainGlobals "HELD" = some (some (.str "held" t_HELD))) :
    ∃ fd : FuncData, (∀ (s : Shared) (v : Value), BindsTo s fd ⟨[v], []⟩ [("script", v)]) ∧ ∀ base : Heap, K.In base → base.Ns mainGlobals mg → FnOk P w K mg base CX0 8 fa fd ["script"] (spLaw K) := by
  have e := hfa.symm.trans (PySem.W.mg_of X G a35)
  cases e
  have B : Blt mg := { b_abs := PySem.W.mg_none_of X G z_abs, b_any := PySem.W.mg_none_of X G z_any, b_bool := PySem.W.mg_none_of X G z_bool, b_enumerate := PySem.W.mg_none_of X G z_enumerate, b_int := PySem.W.mg_none_of X G z_int, b_isinstance := PySem.W.mg_none_of X G z_isinstance, b_len := PySem.W.mg_none_of X G z_len, b_list := PySem.W.mg_none_of X G z_list, b_max := PySem.W.mg_none_of X G z_max, b_min := PySem.W.mg_none_of X G z_min, b_range := PySem.W.mg_none_of X G z_range, b_sorted := PySem.W.mg_none_of X G z_sorted, b_str := PySem.W.mg_none_of X G z_str, b_tuple := PySem.W.mg_none_of X G z_tuple }
  have GG : Glb ⟨P, w, K⟩ mg := { HOLDS := ⟨⟨.ref x_HOLDS, _, PySem.W.mg_of X G e_HOLDS, rfl, fun H => (At.tup (vs := [.ref x_HOLDS_0, .ref x_HOLDS_4, .ref x_HOLDS_8, .ref x_HOLDS_12]) (Or.inr ⟨_, _, _, h_x_HOLDS, rfl, rfl, (show 4 ≤ sizeLine by decide), (Paired.cons rfl (Paired.cons rfl (Paired.cons rfl (Paired.cons rfl Paired.nil))))⟩) (Ats.cons (At.tup (vs := [.str "none", .int 0, .int 0]) (Or.inr ⟨_, _, _, h_x_HOLDS_0, rfl, rfl, (show 3 ≤ sizeLine by decide), (Paired.cons ⟨_, rfl⟩ (Paired.cons ⟨_, rfl⟩ (Paired.cons ⟨_, rfl⟩ Paired.nil)))⟩) (Ats.cons (At.str _) (Ats.cons (At.int _) (Ats.cons (At.int _) Ats.nil)))) (Ats.cons (At.tup (vs := [.str "gap", .int 1, .int 6]) (Or.inr ⟨_, _, _, h_x_HOLDS_4, rfl, rfl, (show 3 ≤ sizeLine by decide), (Paired.cons ⟨_, rfl⟩ (Paired.cons ⟨_, rfl⟩ (Paired.cons ⟨_, rfl⟩ Paired.nil)))⟩) (Ats.cons (At.str _) (Ats.cons (At.int _) (Ats.cons (At.int _) Ats.nil)))) (Ats.cons (At.tup (vs := [.str "half", .int 1, .int 6]) (Or.inr ⟨_, _, _, h_x_HOLDS_8, rfl, rfl, (show 3 ≤ sizeLine by decide), (Paired.cons ⟨_, rfl⟩ (Paired.cons ⟨_, rfl⟩ (Paired.cons ⟨_, rfl⟩ Paired.nil)))⟩) (Ats.cons (At.str _) (Ats.cons (At.int _) (Ats.cons (At.int _) Ats.nil)))) (Ats.cons (At.tup (vs := [.str "beat", .int 2, .int 4]) (Or.inr ⟨_, _, _, h_x_HOLDS_12, rfl, rfl, (show 3 ≤ sizeLine by decide), (Paired.cons ⟨_, rfl⟩ (Paired.cons ⟨_, rfl⟩ (Paired.cons ⟨_, rfl⟩ Paired.nil)))⟩) (Ats.cons (At.str _) (Ats.cons (At.int _) (Ats.cons (At.int _) Ats.nil)))) Ats.nil)))))⟩⟩, RIDES := ⟨⟨.str "rides", _, PySem.W.mg_of X G e_RIDES, ⟨_, rfl⟩, fun H => (.str _)⟩⟩, STAYS := ⟨⟨.str "stays", _, PySem.W.mg_of X G e_STAYS, ⟨_, rfl⟩, fun H => (.str _)⟩⟩, HELD := ⟨⟨.str "held", _, PySem.W.mg_of X G e_HELD, ⟨_, rfl⟩, fun H => (.str _)⟩⟩ }
  have F0 := fun_mk (st := s_is_within) l0 c0 k0
  have F1 := fun_mk (st := s_is_row) l1 c1 k1
  have F2 := fun_mk (st := s_is_span) l2 c2 k2
  have F3 := fun_mk (st := s_is_hold) l3 c3 k3
  have F4 := fun_mk (st := s_is_plan) l4 c4 k4
  have F5 := fun_mk (st := s_look_at_plan) l5 c5 k5
  have F6 := fun_mk (st := s_look_at_stop) l6 c6 k6
  have F7 := fun_mk (st := s_look_at_number) l7 c7 k7
  have F8 := fun_mk (st := s_begin_of) l8 c8 k8
  have F9 := fun_mk (st := s_ways_of) l9 c9 k9
  have F10 := fun_mk (st := s_choices_of) l10 c10 k10
  have F11 := fun_mk (st := s_gap_of) l11 c11 k11
  have F12 := fun_mk (st := s_stay_of) l12 c12 k12
  have F13 := fun_mk (st := s_held_for) l13 c13 k13
  have F14 := fun_mk (st := s_part_behind) l14 c14 k14
  have F15 := fun_mk (st := s_passed) l15 c15 k15
  have F16 := fun_mk (st := s_ways_by) l16 c16 k16
  have F17 := fun_mk (st := s_edges_by) l17 c17 k17
  have F18 := fun_mk (st := s_gaps_by) l18 c18 k18
  have F19 := fun_mk (st := s_waits_by) l19 c19 k19
  have F20 := fun_mk (st := s_gaps) l20 c20 k20
  have F21 := fun_mk (st := s_first_gap) l21 c21 k21
  have F22 := fun_mk (st := s_longest_wait) l22 c22 k22
  have F23 := fun_mk (st := s_times_by) l23 c23 k23
  have F24 := fun_mk (st := s_settled_by) l24 c24 k24
  have F25 := fun_mk (st := s_settles) l25 c25 k25
  have F26 := fun_mk (st := s_law_spring) l26 c26 k26
  have F27 := fun_mk (st := s_law_pick) l27 c27 k27
  have F28 := fun_mk (st := s_law_plan) l28 c28 k28
  have F29 := fun_mk (st := s_law_first) l29 c29 k29
  have F30 := fun_mk (st := s_law_options) l30 c30 k30
  have F31 := fun_mk (st := s_law_choices) l31 c31 k31
  have F32 := fun_mk (st := s_law_wait) l32 c32 k32
  have F33 := fun_mk (st := s_law_moved) l33 c33 k33
  have F34 := fun_mk (st := s_law_tick) l34 c34 k34
  have F35 := fun_mk (st := s_law) l35 c35 k35
  refine ⟨PySem.W.fnOf "law" "law" (defArgs s_law) (defBody s_law) (defScope s_law) .none kV35 dc35 pm35 an35 cd35 ct35, fun s v => .of_eq rfl, fun base _ _ => ?_⟩
  have c_is_within : Cal P w K mg base "is_within" 1 3 F_is_within := ⟨⟨_, _, _, ok_is_within F0 B GG, PySem.W.mg_of X G a0, k0, F0.binds (ps := ["value", "low", "high"]) fun _ _ _ _ _ _ us hl => match us, hl with | [_, _, _], _ => rfl⟩, DL.runP_len⟩
  have c_is_row : Cal P w K mg base "is_row" 1 2 F_is_row := ⟨⟨_, _, _, ok_is_row F1 B GG, PySem.W.mg_of X G a1, k1, F1.binds (ps := ["value", "size"]) fun _ _ _ _ _ _ us hl => match us, hl with | [_, _], _ => rfl⟩, DL.runP_len⟩
  have c_is_span : Cal P w K mg base "is_span" 2 3 F_is_span := ⟨⟨_, _, _, ok_is_span F2 B GG c_is_row c_is_within, PySem.W.mg_of X G a2, k2, F2.binds (ps := ["value", "low", "high"]) fun _ _ _ _ _ _ us hl => match us, hl with | [_, _, _], _ => rfl⟩, DL.runP_len⟩
  have c_is_hold : Cal P w K mg base "is_hold" 2 1 F_is_hold := ⟨⟨_, _, _, ok_is_hold F3 B GG c_is_row c_is_within, PySem.W.mg_of X G a3, k3, F3.binds (ps := ["value"]) fun _ _ _ _ _ _ us hl => match us, hl with | [_], _ => rfl⟩, DL.runP_len⟩
  have c_is_plan : Cal P w K mg base "is_plan" 3 1 F_is_plan := ⟨⟨_, _, _, ok_is_plan F4 B GG c_is_within c_is_hold c_is_row c_is_span, PySem.W.mg_of X G a4, k4, F4.binds (ps := ["value"]) fun _ _ _ _ _ _ us hl => match us, hl with | [_], _ => rfl⟩, DL.runP_len⟩
  have c_look_at_plan : Cal P w K mg base "look_at_plan" 4 1 F_look_at_plan := ⟨⟨_, _, _, ok_look_at_plan F5 B GG c_is_plan, PySem.W.mg_of X G a5, k5, F5.binds (ps := ["plan"]) fun _ _ _ _ _ _ us hl => match us, hl with | [_], _ => rfl⟩, DL.runP_len⟩
  have c_look_at_stop : Cal P w K mg base "look_at_stop" 2 2 F_look_at_stop := ⟨⟨_, _, _, ok_look_at_stop F6 B GG c_is_within, PySem.W.mg_of X G a6, k6, F6.binds (ps := ["plan", "stop"]) fun _ _ _ _ _ _ us hl => match us, hl with | [_, _], _ => rfl⟩, DL.runP_len⟩
  have c_look_at_number : Cal P w K mg base "look_at_number" 2 1 F_look_at_number := ⟨⟨_, _, _, ok_look_at_number F7 B GG c_is_within, PySem.W.mg_of X G a7, k7, F7.binds (ps := ["number"]) fun _ _ _ _ _ _ us hl => match us, hl with | [_], _ => rfl⟩, DL.runP_len⟩
  have c_begin_of : Cal P w K mg base "begin_of" 1 1 F_begin_of := ⟨⟨_, _, _, ok_begin_of F8 B GG, PySem.W.mg_of X G a8, k8, F8.binds (ps := ["plan"]) fun _ _ _ _ _ _ us hl => match us, hl with | [_], _ => rfl⟩, DL.runP_len⟩
  have c_ways_of : Cal P w K mg base "ways_of" 1 2 F_ways_of := ⟨⟨_, _, _, ok_ways_of F9 B GG, PySem.W.mg_of X G a9, k9, F9.binds (ps := ["plan", "part"]) fun _ _ _ _ _ _ us hl => match us, hl with | [_, _], _ => rfl⟩, DL.runP_len⟩
  have c_choices_of : Cal P w K mg base "choices_of" 2 2 F_choices_of := ⟨⟨_, _, _, ok_choices_of F10 B GG c_ways_of, PySem.W.mg_of X G a10, k10, F10.binds (ps := ["plan", "stand"]) fun _ _ _ _ _ _ us hl => match us, hl with | [_, _], _ => rfl⟩, DL.runP_len⟩
  have c_gap_of : Cal P w K mg base "gap_of" 1 3 F_gap_of := ⟨⟨_, _, _, ok_gap_of F11 B GG, PySem.W.mg_of X G a11, k11, F11.binds (ps := ["since", "left", "stop"]) fun _ _ _ _ _ _ us hl => match us, hl with | [_, _, _], _ => rfl⟩, DL.runP_len⟩
  have c_stay_of : Cal P w K mg base "stay_of" 1 4 F_stay_of := ⟨⟨_, _, _, ok_stay_of F12 B GG, PySem.W.mg_of X G a12, k12, F12.binds (ps := ["plan", "number", "stop", "gap"]) fun _ _ _ _ _ _ us hl => match us, hl with | [_, _, _, _], _ => rfl⟩, DL.runP_len⟩
  have c_held_for : Cal P w K mg base "held_for" 1 3 F_held_for := ⟨⟨_, _, _, ok_held_for F13 B GG, PySem.W.mg_of X G a13, k13, F13.binds (ps := ["plan", "gap", "clock"]) fun _ _ _ _ _ _ us hl => match us, hl with | [_, _, _], _ => rfl⟩, DL.runP_len⟩
  have c_part_behind : Cal P w K mg base "part_behind" 2 6 F_part_behind := ⟨⟨_, _, _, ok_part_behind F14 B GG c_held_for c_stay_of, PySem.W.mg_of X G a14, k14, F14.binds (ps := ["plan", "number", "part", "ends", "gap", "clock"]) fun _ _ _ _ _ _ us hl => match us, hl with | [_, _, _, _, _, _], _ => rfl⟩, DL.runP_len⟩
  have c_passed : Cal P w K mg base "passed" 3 3 F_passed := ⟨⟨_, _, _, ok_passed F15 B GG c_gap_of c_part_behind, PySem.W.mg_of X G a15, k15, F15.binds (ps := ["plan", "stand", "choice"]) fun _ _ _ _ _ _ us hl => match us, hl with | [_, _, _], _ => rfl⟩, DL.runP_len⟩
  have c_ways_by : Cal P w K mg base "ways_by" 4 1 F_ways_by := ⟨⟨_, _, _, ok_ways_by F16 B GG c_begin_of c_choices_of c_passed, PySem.W.mg_of X G a16, k16, F16.binds (ps := ["plan"]) fun _ _ _ _ _ _ us hl => match us, hl with | [_], _ => rfl⟩, DL.runP_len⟩
  have c_edges_by : Cal P w K mg base "edges_by" 5 1 F_edges_by := ⟨⟨_, _, _, ok_edges_by F17 B GG c_ways_by c_passed c_choices_of, PySem.W.mg_of X G a17, k17, F17.binds (ps := ["plan"]) fun _ _ _ _ _ _ us hl => match us, hl with | [_], _ => rfl⟩, DL.runP_len⟩
  have c_gaps_by : Cal P w K mg base "gaps_by" 6 1 F_gaps_by := ⟨⟨_, _, _, ok_gaps_by F18 B GG c_edges_by, PySem.W.mg_of X G a18, k18, F18.binds (ps := ["plan"]) fun _ _ _ _ _ _ us hl => match us, hl with | [_], _ => rfl⟩, DL.runP_len⟩
  have c_waits_by : Cal P w K mg base "waits_by" 6 1 F_waits_by := ⟨⟨_, _, _, ok_waits_by F19 B GG c_edges_by, PySem.W.mg_of X G a19, k19, F19.binds (ps := ["plan"]) fun _ _ _ _ _ _ us hl => match us, hl with | [_], _ => rfl⟩, DL.runP_len⟩
  have c_gaps : Cal P w K mg base "gaps" 7 1 F_gaps := ⟨⟨_, _, _, ok_gaps F20 B GG c_look_at_plan c_gaps_by, PySem.W.mg_of X G a20, k20, F20.binds (ps := ["plan"]) fun _ _ _ _ _ _ us hl => match us, hl with | [_], _ => rfl⟩, DL.runP_len⟩
  have c_first_gap : Cal P w K mg base "first_gap" 5 2 F_first_gap := ⟨⟨_, _, _, ok_first_gap F21 B GG c_look_at_plan c_look_at_number c_choices_of c_ways_by c_passed, PySem.W.mg_of X G a21, k21, F21.binds (ps := ["plan", "gap"]) fun _ _ _ _ _ _ us hl => match us, hl with | [_, _], _ => rfl⟩, DL.runP_len⟩
  have c_longest_wait : Cal P w K mg base "longest_wait" 7 2 F_longest_wait := ⟨⟨_, _, _, ok_longest_wait F22 B GG c_look_at_plan c_look_at_stop c_waits_by, PySem.W.mg_of X G a22, k22, F22.binds (ps := ["plan", "stop"]) fun _ _ _ _ _ _ us hl => match us, hl with | [_, _], _ => rfl⟩, DL.runP_len⟩
  have c_times_by : Cal P w K mg base "times_by" 1 2 F_times_by := ⟨⟨_, _, _, ok_times_by F23 B GG, PySem.W.mg_of X G a23, k23, F23.binds (ps := ["plan", "edges"]) fun _ _ _ _ _ _ us hl => match us, hl with | [_, _], _ => rfl⟩, DL.runP_len⟩
  have c_settled_by : Cal P w K mg base "settled_by" 6 2 F_settled_by := ⟨⟨_, _, _, ok_settled_by F24 B GG c_edges_by c_times_by, PySem.W.mg_of X G a24, k24, F24.binds (ps := ["plan", "least"]) fun _ _ _ _ _ _ us hl => match us, hl with | [_, _], _ => rfl⟩, DL.runP_len⟩
  have c_settles : Cal P w K mg base "settles" 7 2 F_settles := ⟨⟨_, _, _, ok_settles F25 B GG c_look_at_plan c_look_at_number c_settled_by, PySem.W.mg_of X G a25, k25, F25.binds (ps := ["plan", "least"]) fun _ _ _ _ _ _ us hl => match us, hl with | [_, _], _ => rfl⟩, DL.runP_len⟩
  have c_law_spring : CalN P w K mg base "_law_spring" 1 2 F_law_spring := ⟨⟨_, _, _, ok_law_spring F26 B GG, PySem.W.mg_of X G a26, k26, F26.binds (ps := ["script", "at"]) fun _ _ _ _ _ _ us hl => match us, hl with | [_, _], _ => rfl⟩, DL.runN_len⟩
  have c_law_pick : Cal P w K mg base "_law_pick" 1 2 F_law_pick := ⟨⟨_, _, _, ok_law_pick F27 B GG, PySem.W.mg_of X G a27, k27, F27.binds (ps := ["spring", "many"]) fun _ _ _ _ _ _ us hl => match us, hl with | [_, _], _ => rfl⟩, DL.runP_len⟩
  have c_law_plan : Cal P w K mg base "_law_plan" 2 2 F_law_plan := ⟨⟨_, _, _, ok_law_plan F28 B GG c_law_pick, PySem.W.mg_of X G a28, k28, F28.binds (ps := ["spring", "stops"]) fun _ _ _ _ _ _ us hl => match us, hl with | [_, _], _ => rfl⟩, DL.runP_len⟩
  have c_law_first : Cal P w K mg base "_law_first" 1 1 F_law_first := ⟨⟨_, _, _, ok_law_first F29 B GG, PySem.W.mg_of X G a29, k29, F29.binds (ps := ["plan"]) fun _ _ _ _ _ _ us hl => match us, hl with | [_], _ => rfl⟩, DL.runP_len⟩
  have c_law_options : Cal P w K mg base "_law_options" 1 2 F_law_options := ⟨⟨_, _, _, ok_law_options F30 B GG, PySem.W.mg_of X G a30, k30, F30.binds (ps := ["plan", "part"]) fun _ _ _ _ _ _ us hl => match us, hl with | [_, _], _ => rfl⟩, DL.runP_len⟩
  have c_law_choices : Cal P w K mg base "_law_choices" 2 2 F_law_choices := ⟨⟨_, _, _, ok_law_choices F31 B GG c_law_options, PySem.W.mg_of X G a31, k31, F31.binds (ps := ["plan", "stand"]) fun _ _ _ _ _ _ us hl => match us, hl with | [_, _], _ => rfl⟩, DL.runP_len⟩
  have c_law_wait : Cal P w K mg base "_law_wait" 1 3 F_law_wait := ⟨⟨_, _, _, ok_law_wait F32 B GG, PySem.W.mg_of X G a32, k32, F32.binds (ps := ["plan", "gap", "clock"]) fun _ _ _ _ _ _ us hl => match us, hl with | [_, _, _], _ => rfl⟩, DL.runP_len⟩
  have c_law_moved : Cal P w K mg base "_law_moved" 2 6 F_law_moved := ⟨⟨_, _, _, ok_law_moved F33 B GG c_law_wait, PySem.W.mg_of X G a33, k33, F33.binds (ps := ["plan", "number", "part", "ends", "gap", "clock"]) fun _ _ _ _ _ _ us hl => match us, hl with | [_, _, _, _, _, _], _ => rfl⟩, DL.runP_len⟩
  have c_law_tick : Cal P w K mg base "_law_tick" 3 3 F_law_tick := ⟨⟨_, _, _, ok_law_tick F34 B GG c_law_moved, PySem.W.mg_of X G a34, k34, F34.binds (ps := ["plan", "stand", "choice"]) fun _ _ _ _ _ _ us hl => match us, hl with | [_, _, _], _ => rfl⟩, DL.runP_len⟩
  refine (ok_law F35 B GG c_law_spring c_law_plan c_gaps c_settles c_longest_wait c_law_pick c_law_first c_first_gap c_law_choices c_law_tick).imp fun vs H Q E hq => ?_
  obtain ⟨a, ns, rfl, hS, hl, k⟩ := hq
  refine ⟨fun _ => False, [], [.ref a], [], [scrD (ns.map .int)], .bool true, [], fun _ z => z.elim, List.nodup_nil, fun _ z => absurd z List.not_mem_nil, rfl, rfl, .nil, .cons (.scr (vs := ns.map V.int) ?_ ?_) .nil, law_true ns hl, rfl, fun v H' _ _ a => ?_⟩
  · exact Same.seq (fun b o e => hide_some.mpr ⟨fun z => z.elim id fun z => absurd z List.not_mem_nil, e⟩) hS
  · exact ats_ints _
  · cases a
    exact k H'
end
theorem walk {l : PySem.W.OpenLaw} {q : Program} {loose : List Str} {XP : (Str → Option Value) → Heap → Prop} {YP : World → Heap → Prop} {d : DefRec} {K : Params → PySem.W.Frag} (hn : l.most = some 63) (hdf : d.params.defaults = [])
    (hY : ∀ (w : World) (h : Heap), YP w h → (K w.params).In h)
    (F : ∀ (w : World) (mg : Str → Option Value) (fa : Addr) (h : Heap), (K w.params).In h → h.Ns mainGlobals mg → mg d.name = some (.ref fa) →
      ∃ fd : FuncData, (∀ (s : Shared) (u : Value), BindsTo s fd ⟨[u], []⟩ [("script", u)]) ∧ ∀ base : Heap, (K w.params).In base → base.Ns mainGlobals mg → FnOk l.prog w (K w.params) mg base CX0 8 fa fd ["script"] (spLaw (K w.params))) :
    PySem.W.WalkO q loose XP YP l.row.toRowW d [] (fun f vs => PySem.call f vs) :=
  L2.walk_of (n := 63) (k := 8) (x := "script") (CX := fun _ => CX0) (sp := fun w => spLaw (K w.params)) hn (by decide) hdf ⟨rfl, by decide, by decide⟩ hY F (fun _ _ a ns hl _ hS => ⟨a, ns, rfl, hS, hl, fun _ => rfl⟩) fun _ _ _ _ _ z => z
end Pf
open PySem PySem.W PyProof.Rows
set_option maxRecDepth 100000 in
set_option maxHeartbeats 0 in
theorem PySem.Challenge.cw_chasedround_k05_whole_drawn_rounds_holds : PySem.Challenge.rw_chasedround_k05_whole_drawn_rounds.Holds := by
  w_on; o_law; k_head; (case hw => w_witness2)
  k_fill
  refine Pf.walk (l := PySem.Challenge.rw_chasedround_k05_whole_drawn_rounds) rfl rfl (fun w h Y => PySem.W.kIn_of Y) ?F
  case F =>
    intro w mg fa h KX G hmg
    refine' Pf.all_mk KX G hmg ?a0 ?l0 ?c0 ?k0 ?a1 ?l1 ?c1 ?k1 ?a2 ?l2 ?c2 ?k2 ?a3 ?l3 ?c3 ?k3 ?a4 ?l4 ?c4 ?k4 ?a5 ?l5 ?c5 ?k5 ?a6 ?l6 ?c6 ?k6 ?a7 ?l7 ?c7 ?k7 ?a8 ?l8 ?c8 ?k8 ?a9 ?l9 ?c9 ?k9 ?a10 ?l10 ?c10 ?k10 ?a11 ?l11 ?c11 ?k11 ?a12 ?l12 ?c12 ?k12 ?a13 ?l13 ?c13 ?k13 ?a14 ?l14 ?c14 ?k14 ?a15 ?l15 ?c15 ?k15 ?a16 ?l16 ?c16 ?k16 ?a17 ?l17 ?c17 ?k17 ?a18 ?l18 ?c18 ?k18 ?a19 ?l19 ?c19 ?k19 ?a20 ?l20 ?c20 ?k20 ?a21 ?l21 ?c21 ?k21 ?a22 ?l22 ?c22 ?k22 ?a23 ?l23 ?c23 ?k23 ?a24 ?l24 ?c24 ?k24 ?a25 ?l25 ?c25 ?k25 ?a26 ?l26 ?c26 ?k26 ?a27 ?l27 ?c27 ?k27 ?a28 ?l28 ?c28 ?k28 ?a29 ?l29 ?c29 ?k29 ?a30 ?l30 ?c30 ?k30 ?a31 ?l31 ?c31 ?k31 ?a32 ?l32 ?c32 ?k32 ?a33 ?l33 ?c33 ?k33 ?a34 ?l34 ?c34 ?k34 ?a35 ?l35 ?c35 ?k35 ?z_abs ?z_any ?z_bool ?z_enumerate ?z_int ?z_isinstance ?z_len ?z_list ?z_max ?z_min ?z_range ?z_sorted ?z_str ?z_tuple ?h_x_HOLDS_0 ?h_x_HOLDS_4 ?h_x_HOLDS_8 ?h_x_HOLDS_12 ?h_x_HOLDS ?e_HOLDS ?e_RIDES ?e_STAYS ?e_HELD
    (case a0 => k_is)
    (case l0 => k_is)
    (case c0 => k_is)
    (case k0 => k_is)
    (case a1 => k_is)
    (case l1 => k_is)
    (case c1 => k_is)
    (case k1 => k_is)
    (case a2 => k_is)
    (case l2 => k_is)
    (case c2 => k_is)
    (case k2 => k_is)
    (case a3 => k_is)
    (case l3 => k_is)
    (case c3 => k_is)
    (case k3 => k_is)
    (case a4 => k_is)
    (case l4 => k_is)
    (case c4 => k_is)
    (case k4 => k_is)
    (case a5 => k_is)
    (case l5 => k_is)
    (case c5 => k_is)
    (case k5 => k_is)
    (case a6 => k_is)
    (case l6 => k_is)
    (case c6 => k_is)
    (case k6 => k_is)
    (case a7 => k_is)
    (case l7 => k_is)
    (case c7 => k_is)
    (case k7 => k_is)
    (case a8 => k_is)
    (case l8 => k_is)
    (case c8 => k_is)
    (case k8 => k_is)
    (case a9 => k_is)
    (case l9 => k_is)
    (case c9 => k_is)
    (case k9 => k_is)
    (case a10 => k_is)
    (case l10 => k_is)
    (case c10 => k_is)
    (case k10 => k_is)
    (case a11 => k_is)
    (case l11 => k_is)
    (case c11 => k_is)
    (case k11 => k_is)
    (case a12 => k_is)
    (case l12 => k_is)
    (case c12 => k_is)
    (case k12 => k_is)
    (case a13 => k_is)
    (case l13 => k_is)
    (case c13 => k_is)
    (case k13 => k_is)
    (case a14 => k_is)
    (case l14 => k_is)
    (case c14 => k_is)
    (case k14 => k_is)
    (case a15 => k_is)
    (case l15 => k_is)
    (case c15 => k_is)
    (case k15 => k_is)
    (case a16 => k_is)
    (case l16 => k_is)
    (case c16 => k_is)
    (case k16 => k_is)
    (case a17 => k_is)
    (case l17 => k_is)
    (case c17 => k_is)
    (case k17 => k_is)
    (case a18 => k_is)
    (case l18 => k_is)
    (case c18 => k_is)
    (case k18 => k_is)
    (case a19 => k_is)
    (case l19 => k_is)
    (case c19 => k_is)
    (case k19 => k_is)
    (case a20 => k_is)
    (case l20 => k_is)
    (case c20 => k_is)
    (case k20 => k_is)
    (case a21 => k_is)
    (case l21 => k_is)
    (case c21 => k_is)
    (case k21 => k_is)
    (case a22 => k_is)
    (case l22 => k_is)
    (case c22 => k_is)
    (case k22 => k_is)
    (case a23 => k_is)
    (case l23 => k_is)
    (case c23 => k_is)
    (case k23 => k_is)
    (case a24 => k_is)
    (case l24 => k_is)
    (case c24 => k_is)
    (case k24 => k_is)
    (case a25 => k_is)
    (case l25 => k_is)
    (case c25 => k_is)
    (case k25 => k_is)
    (case a26 => k_is)
    (case l26 => k_is)
    (case c26 => k_is)
    (case k26 => k_is)
    (case a27 => k_is)
    (case l27 => k_is)
    (case c27 => k_is)
    (case k27 => k_is)
    (case a28 => k_is)
    (case l28 => k_is)
    (case c28 => k_is)
    (case k28 => k_is)
    (case a29 => k_is)
    (case l29 => k_is)
    (case c29 => k_is)
    (case k29 => k_is)
    (case a30 => k_is)
    (case l30 => k_is)
    (case c30 => k_is)
    (case k30 => k_is)
    (case a31 => k_is)
    (case l31 => k_is)
    (case c31 => k_is)
    (case k31 => k_is)
    (case a32 => k_is)
    (case l32 => k_is)
    (case c32 => k_is)
    (case k32 => k_is)
    (case a33 => k_is)
    (case l33 => k_is)
    (case c33 => k_is)
    (case k33 => k_is)
    (case a34 => k_is)
    (case l34 => k_is)
    (case c34 => k_is)
    (case k34 => k_is)
    (case a35 => k_is)
    (case l35 => k_is)
    (case c35 => k_is)
    (case k35 => k_is)
    (case z_abs => k_is)
    (case z_any => k_is)
    (case z_bool => k_is)
    (case z_enumerate => k_is)
    (case z_int => k_is)
    (case z_isinstance => k_is)
    (case z_len => k_is)
    (case z_list => k_is)
    (case z_max => k_is)
    (case z_min => k_is)
    (case z_range => k_is)
    (case z_sorted => k_is)
    (case z_str => k_is)
    (case z_tuple => k_is)
    (case e_HOLDS => k_is)
    (case e_RIDES => k_is)
    (case e_STAYS => k_is)
    (case e_HELD => k_is)
    (case h_x_HOLDS => k_is)
    (case h_x_HOLDS_12 => k_is)
    (case h_x_HOLDS_8 => k_is)
    (case h_x_HOLDS_4 => k_is)
    (case h_x_HOLDS_0 => k_is)
