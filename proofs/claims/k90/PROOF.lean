import PyProof.Rows.All
import Wide.All
import OpenK.AllK
import Wide.FinOn
import HandS.ForMost
import HandS.IsInst
import HandS.Style
import HandS.Conv
import HandS.Deep
import HandS.TupAny
import HandS.StrMore
import HandS.RaiseMore
import HandS.Strs
import PySem.Challenge.RW_stagelands_k90_numbers_words_and_records
set_option Elab.async false
set_option linter.all false
set_option maxRecDepth 100000
set_option maxHeartbeats 1000000
/-! The data layer, core: values as trees, slots with ownership, the state's relation. -/
namespace DL
open PySem L2 PyProof.Rows

inductive D where
  | non | bl (b : Bool) | int (i : Int) | str (s : Str)
  | tup (ds : List D) | lst (ds : List D) | dic (kvs : List (Key × D)) | scr (ns : List Int) | ty (n : String)

mutual
def Rep (K : PySem.W.Frag) (F : Hp) : D → V → Prop
  | .non, v => v = .non
  | .bl b, v => v = .bl b
  | .int i, v => v = .int i
  | .str s, v => v = .str s
  | .tup ds, v => ∃ a xs, v = .ref a ∧ SqT K F a xs ∧ Reps K F ds xs
  | .lst ds, v => ∃ a xs, v = .ref a ∧ F a = some (.lst xs) ∧ Reps K F ds xs
  | .dic kvs, v => ∃ a xs, v = .ref a ∧ F a = some (.dK xs) ∧ RepK K F kvs xs
  | .scr ns, v => ∃ a, v = .ref a ∧ SqL K F a (ns.map V.int)
  | .ty n, v => v = .ty n
def Reps (K : PySem.W.Frag) (F : Hp) : List D → List V → Prop
  | [], xs => xs = []
  | d :: ds, xs => ∃ x r, xs = x :: r ∧ Rep K F d x ∧ Reps K F ds r
def RepK (K : PySem.W.Frag) (F : Hp) : List (Key × D) → List (Key × V) → Prop
  | [], xs => xs = []
  | (k, d) :: ds, xs => ∃ x r, xs = (k, x) :: r ∧ Rep K F d x ∧ RepK K F ds r
end

/-- everything of F stands in F' -/
def Ext (F F' : Hp) : Prop := ∀ a o, F a = some o → F' a = some o
theorem Ext.refl (F : Hp) : Ext F F := fun _ _ h => h
theorem Ext.trans {F G H : Hp} (a : Ext F G) (b : Ext G H) : Ext F H := fun x o h => b x o (a x o h)
theorem Ext.new {F : Hp} {p : Addr} {o : HO} (h : F p = none) : Ext F (upd F p o) := fun a u e => by
  rw [upd_ne (ne_of_none e h)]; exact e
theorem rd_ext {F F' : Hp} {a : Addr} {u : HO} (e : Ext F F') (h : Rd F a u) : Rd F' a u := by
  rcases h with h | ⟨o, h⟩
  · exact .inl (e a _ h)
  · exact .inr ⟨o, e a _ h⟩
theorem sql_ext {K : PySem.W.Frag} {F F' : Hp} {a : Addr} {xs : List V} (e : Ext F F') (h : SqL K F a xs) : SqL K F' a xs := by
  rcases h with h | h
  · exact .inl (rd_ext e h)
  · exact .inr h
theorem sqt_ext {K : PySem.W.Frag} {F F' : Hp} {a : Addr} {xs : List V} (e : Ext F F') (h : SqT K F a xs) : SqT K F' a xs := by
  rcases h with h | h
  · exact .inl (rd_ext e h)
  · exact .inr h
mutual
theorem Rep.ext {K : PySem.W.Frag} {F F' : Hp} (e : Ext F F') : ∀ (d : D) (v : V), Rep K F d v → Rep K F' d v
  | .non, _, h => by rw [Rep] at h ⊢; exact h
  | .bl _, _, h => by rw [Rep] at h ⊢; exact h
  | .int _, _, h => by rw [Rep] at h ⊢; exact h
  | .str _, _, h => by rw [Rep] at h ⊢; exact h
  | .ty _, _, h => by rw [Rep] at h ⊢; exact h
  | .tup ds, _, h => by
    rw [Rep] at h ⊢
    obtain ⟨a, xs, h1, h2, h3⟩ := h
    exact ⟨a, xs, h1, sqt_ext e h2, Reps.ext e ds xs h3⟩
  | .lst ds, _, h => by
    rw [Rep] at h ⊢
    obtain ⟨a, xs, h1, h2, h3⟩ := h
    exact ⟨a, xs, h1, e _ _ h2, Reps.ext e ds xs h3⟩
  | .dic kvs, _, h => by
    rw [Rep] at h ⊢
    obtain ⟨a, xs, h1, h2, h3⟩ := h
    exact ⟨a, xs, h1, e _ _ h2, RepK.ext e kvs xs h3⟩
  | .scr ns, _, h => by
    rw [Rep] at h ⊢
    obtain ⟨a, h1, h2⟩ := h
    exact ⟨a, h1, sql_ext e h2⟩
theorem Reps.ext {K : PySem.W.Frag} {F F' : Hp} (e : Ext F F') : ∀ (ds : List D) (xs : List V), Reps K F ds xs → Reps K F' ds xs
  | [], _, h => by rw [Reps] at h ⊢; exact h
  | d :: ds, _, h => by
    rw [Reps] at h ⊢
    obtain ⟨x, r, h1, h2, h3⟩ := h
    exact ⟨x, r, h1, Rep.ext e d x h2, Reps.ext e ds r h3⟩
theorem RepK.ext {K : PySem.W.Frag} {F F' : Hp} (e : Ext F F') : ∀ (ds : List (Key × D)) (xs : List (Key × V)), RepK K F ds xs → RepK K F' ds xs
  | [], _, h => by rw [RepK] at h ⊢; exact h
  | (k, d) :: ds, _, h => by
    rw [RepK] at h ⊢
    obtain ⟨x, r, h1, h2, h3⟩ := h
    exact ⟨x, r, h1, Rep.ext e d x h2, RepK.ext e ds r h3⟩
end

/-! ### lists of representations -/
section
variable {K : PySem.W.Frag} {F : Hp}
theorem Reps.nil : Reps K F [] [] := by rw [Reps]
theorem Reps.cons {d : D} {ds : List D} {x : V} {xs : List V} (h : Rep K F d x) (hs : Reps K F ds xs) : Reps K F (d :: ds) (x :: xs) := by
  rw [Reps]; exact ⟨x, xs, rfl, h, hs⟩
theorem Reps.cons_iff {d : D} {ds : List D} {x : V} {xs : List V} : Reps K F (d :: ds) (x :: xs) ↔ Rep K F d x ∧ Reps K F ds xs := by
  constructor
  · intro h
    rw [Reps] at h
    obtain ⟨x', r, h1, h2, h3⟩ := h
    cases h1
    exact ⟨h2, h3⟩
  · intro h; exact Reps.cons h.1 h.2
theorem Reps.len : ∀ {ds : List D} {xs : List V}, Reps K F ds xs → ds.length = xs.length
  | [], xs, h => by rw [Reps] at h; subst h; rfl
  | d :: ds, xs, h => by
    rw [Reps] at h
    obtain ⟨x, r, rfl, _, h3⟩ := h
    simp [Reps.len h3]
theorem Reps.get : ∀ {ds : List D} {xs : List V} {i : Nat} {d : D}, Reps K F ds xs → ds[i]? = some d → ∃ x, xs[i]? = some x ∧ Rep K F d x
  | [], _, i, d, h, e => by simp at e
  | d :: ds, xs, 0, d', h, e => by
    rw [Reps] at h
    obtain ⟨x, r, rfl, h2, _⟩ := h
    simp at e; subst e
    exact ⟨x, rfl, h2⟩
  | d :: ds, xs, i + 1, d', h, e => by
    rw [Reps] at h
    obtain ⟨x, r, rfl, _, h3⟩ := h
    obtain ⟨y, h4, h5⟩ := Reps.get (i := i) (d := d') h3 (by simpa using e)
    exact ⟨y, by simpa using h4, h5⟩
theorem Reps.get' : ∀ {ds : List D} {xs : List V} {i : Nat} {x : V}, Reps K F ds xs → xs[i]? = some x → ∃ d, ds[i]? = some d ∧ Rep K F d x
  | [], _, i, x, h, e => by rw [Reps] at h; subst h; simp at e
  | d :: ds, xs, 0, x, h, e => by
    rw [Reps] at h
    obtain ⟨y, r, rfl, h2, _⟩ := h
    simp at e; subst e
    exact ⟨d, rfl, h2⟩
  | d :: ds, xs, i + 1, x, h, e => by
    rw [Reps] at h
    obtain ⟨y, r, rfl, _, h3⟩ := h
    obtain ⟨z, h4, h5⟩ := Reps.get' (i := i) (x := x) h3 (by simpa using e)
    exact ⟨z, by simpa using h4, h5⟩
theorem Reps.append : ∀ {ds es : List D} {xs ys : List V}, Reps K F ds xs → Reps K F es ys → Reps K F (ds ++ es) (xs ++ ys)
  | [], es, xs, ys, h, h' => by rw [Reps] at h; subst h; exact h'
  | d :: ds, es, xs, ys, h, h' => by
    rw [Reps] at h
    obtain ⟨x, r, rfl, h2, h3⟩ := h
    exact Reps.cons h2 (Reps.append h3 h')
theorem Reps.set : ∀ {ds : List D} {xs : List V} {d : D} {x : V} (i : Nat), Reps K F ds xs → Rep K F d x → Reps K F (ds.set i d) (xs.set i x)
  | [], xs, d, x, i, h, _ => by rw [Reps] at h; subst h; exact Reps.nil
  | d :: ds, xs, d', x', 0, h, h' => by
    rw [Reps] at h
    obtain ⟨x, r, rfl, h2, h3⟩ := h
    exact Reps.cons h' h3
  | d :: ds, xs, d', x', i + 1, h, h' => by
    rw [Reps] at h
    obtain ⟨x, r, rfl, h2, h3⟩ := h
    exact Reps.cons h2 (Reps.set i h3 h')
theorem Reps.take : ∀ {ds : List D} {xs : List V} (n : Nat), Reps K F ds xs → Reps K F (ds.take n) (xs.take n)
  | _, _, 0, _ => by simp; exact Reps.nil
  | [], xs, n + 1, h => by rw [Reps] at h; subst h; exact Reps.nil
  | d :: ds, xs, n + 1, h => by
    rw [Reps] at h
    obtain ⟨x, r, rfl, h2, h3⟩ := h
    exact Reps.cons h2 (Reps.take n h3)
theorem Reps.drop : ∀ {ds : List D} {xs : List V} (n : Nat), Reps K F ds xs → Reps K F (ds.drop n) (xs.drop n)
  | _, _, 0, h => by simpa using h
  | [], xs, n + 1, h => by rw [Reps] at h; subst h; exact Reps.nil
  | d :: ds, xs, n + 1, h => by
    rw [Reps] at h
    obtain ⟨x, r, rfl, h2, h3⟩ := h
    exact Reps.drop n h3
theorem Reps.reverse : ∀ {ds : List D} {xs : List V}, Reps K F ds xs → Reps K F ds.reverse xs.reverse
  | [], xs, h => by rw [Reps] at h; subst h; exact Reps.nil
  | d :: ds, xs, h => by
    rw [Reps] at h
    obtain ⟨x, r, rfl, h2, h3⟩ := h
    rw [List.reverse_cons, List.reverse_cons]
    exact Reps.append (Reps.reverse h3) (Reps.cons h2 Reps.nil)
theorem Reps.eraseIdx : ∀ {ds : List D} {xs : List V} (n : Nat), Reps K F ds xs → Reps K F (ds.eraseIdx n) (xs.eraseIdx n)
  | [], xs, n, h => by rw [Reps] at h; subst h; exact Reps.nil
  | d :: ds, xs, 0, h => by
    rw [Reps] at h
    obtain ⟨x, r, rfl, h2, h3⟩ := h
    exact h3
  | d :: ds, xs, n + 1, h => by
    rw [Reps] at h
    obtain ⟨x, r, rfl, h2, h3⟩ := h
    exact Reps.cons h2 (Reps.eraseIdx n h3)
theorem Rep.int_iff {i : Int} {v : V} : Rep K F (.int i) v ↔ v = .int i := by rw [Rep]
theorem Rep.bl_iff {b : Bool} {v : V} : Rep K F (.bl b) v ↔ v = .bl b := by rw [Rep]
theorem Rep.str_iff {s : Str} {v : V} : Rep K F (.str s) v ↔ v = .str s := by rw [Rep]
theorem Rep.ty_iff {s : String} {v : V} : Rep K F (.ty s) v ↔ v = .ty s := by rw [Rep]
theorem Rep.non_iff {v : V} : Rep K F .non v ↔ v = .non := by rw [Rep]
theorem Reps.ints : ∀ {ns : List Int} {xs : List V}, Reps K F (ns.map D.int) xs ↔ xs = ns.map V.int
  | [], xs => by simp [Reps]
  | n :: ns, xs => by
    constructor
    · intro h
      rw [List.map_cons, Reps] at h
      obtain ⟨x, r, rfl, h2, h3⟩ := h
      rw [Rep.int_iff.mp h2, Reps.ints.mp h3]; rfl
    · intro h
      subst h
      exact Reps.cons (Rep.int_iff.mpr rfl) (Reps.ints.mpr rfl)
theorem Reps.strs : ∀ {ns : List Str} {xs : List V}, Reps K F (ns.map D.str) xs ↔ xs = ns.map V.str
  | [], xs => by simp [Reps]
  | n :: ns, xs => by
    constructor
    · intro h
      rw [List.map_cons, Reps] at h
      obtain ⟨x, r, rfl, h2, h3⟩ := h
      rw [Rep.str_iff.mp h2, Reps.strs.mp h3]; rfl
    · intro h
      subst h
      exact Reps.cons (Rep.str_iff.mpr rfl) (Reps.strs.mpr rfl)
end

/-! ### what a slot or a temporary holds -/
inductive R where
  /-- nothing is known -/
  | any
  /-- a value that will never change -/
  | imm (d : D)
  /-- a list, a dict that this one alone holds -/
  | own (ds : List D) | ownD (kvs : List (Key × D))
  /-- a list that was handed in to be changed -/
  | box (ds : List D)
  /-- (temporaries) what slot j holds -/
  | loc (j : Nat)

def R.isOwn : R → Bool
  | .own _ => true
  | .ownD _ => true
  | .box _ => true
  | _ => false
def R.noLoc : R → Bool
  | .loc _ => false
  | _ => true
def R.data : R → Option D
  | .any => none
  | .imm d => some d
  | .own ds => some (.lst ds)
  | .box ds => some (.lst ds)
  | .ownD kvs => some (.dic kvs)
  | .loc _ => none
/-- the data that is read there -/
def view (es : List R) : R → Option D
  | .loc j => match es[j]? with
    | some r => r.data
    | none => none
  | r => r.data

structure Bas where
  /-- the heap at the entry -/
  He : Hp
  /-- what never changes, at the entry -/
  Hs : Hp
  /-- the arguments that may be changed -/
  mu : List Addr
  /-- what a walk has locked, now and at the entry -/
  lk : Addr → Option Obj
  lk0 : Addr → Option Obj

def At (lk : Addr → Option Obj) (H : Hp) (a : Addr) (o : HO) : Prop :=
  match lk a with
  | none => H a = some o
  | some ob => H a = some (.frz ob o)
/-- an object of the entry is as it was, or locked since -/
def Kept (B : Bas) (H : Hp) (a : Addr) (o : HO) : Prop :=
  (B.lk a = B.lk0 a ∧ H a = some o) ∨ (B.lk0 a = none ∧ ∃ ob, B.lk a = some ob ∧ H a = some (.frz ob o))

def OwnL (K : PySem.W.Frag) (F H : Hp) (ds : List D) (p : Addr) : Prop := ∃ xs, H p = some (.lst xs) ∧ Reps K F ds xs ∧ F p = none
def OwnD (K : PySem.W.Frag) (F H : Hp) (kvs : List (Key × D)) (p : Addr) : Prop := ∃ xs, H p = some (.dK xs) ∧ RepK K F kvs xs ∧ F p = none
def EntO (K : PySem.W.Frag) (B : Bas) (F H : Hp) : R → V → Prop
  | .any, _ => True
  | .imm d, u => Rep K F d u
  | .own ds, u => ∃ p, u = .ref p ∧ OwnL K F H ds p ∧ B.He p = none
  | .box ds, u => ∃ p, u = .ref p ∧ OwnL K F H ds p ∧ p ∈ B.mu
  | .ownD kvs, u => ∃ p, u = .ref p ∧ OwnD K F H kvs p ∧ B.He p = none
  | .loc _, _ => False
def EntE (K : PySem.W.Frag) (B : Bas) (F H : Hp) (x : R × Option V) : Prop := x.1 = .any ∨ ∃ u, x.2 = some u ∧ EntO K B F H x.1 u
def EntT (K : PySem.W.Frag) (B : Bas) (F H : Hp) (E : List (R × Option V)) (x : R × V) : Prop :=
  EntO K B F H x.1 x.2 ∨ ∃ j r, x.1 = .loc j ∧ E[j]? = some (r, some x.2) ∧ r.isOwn = true

def ownA (r : R) (u : V) : List Addr := if r.isOwn then (match u with | .ref p => [p] | _ => []) else []
def ownE (x : R × Option V) : List Addr := match x.2 with
  | some u => ownA x.1 u
  | none => []
def ownT (x : R × V) : List Addr := ownA x.1 x.2

structure StOk (K : PySem.W.Frag) (B : Bas) (F H : Hp) (E : List (R × Option V)) (T : List (R × V)) : Prop where
  le : ∀ a o, F a = some o → At B.lk H a o
  sup : Ext B.Hs F
  new : ∀ a o, F a = some o → B.Hs a = some o ∨ B.He a = none
  keep : ∀ a o, B.He a = some o → a ∉ B.mu → Kept B H a o
  mus : ∀ a ∈ B.mu, ∃ o, H a = some o
  lkd : ∀ a ob, B.lk a = some ob → ∃ kvs, F a = some (.dK kvs)
  entE : ∀ x ∈ E, EntE K B F H x
  entT : ∀ x ∈ T, EntT K B F H E x
  dis : (E.flatMap ownE ++ T.flatMap ownT).Nodup

section
variable {K : PySem.W.Frag} {B : Bas} {F H F' H' : Hp} {E : List (R × Option V)} {T : List (R × V)} {p : Addr} {r : R} {u : V}

theorem ownA_mem {r : R} {u : V} : p ∈ ownA r u ↔ r.isOwn = true ∧ u = .ref p := by
  unfold ownA
  split
  · rename_i h
    cases u <;> simp [h, eq_comm]
  · rename_i h
    simp [h]
theorem EntO.own_ok (h : EntO K B F H r u) (ho : r.isOwn = true) : ∃ p, u = .ref p ∧ (∃ o, H p = some o) ∧ F p = none ∧ (B.He p = none ∨ p ∈ B.mu) := by
  cases r with
  | any => cases ho
  | imm d => cases ho
  | loc j => cases ho
  | own ds =>
    obtain ⟨p, rfl, ⟨xs, h1, h2, h3⟩, h4⟩ := h
    exact ⟨p, rfl, ⟨_, h1⟩, h3, .inl h4⟩
  | box ds =>
    obtain ⟨p, rfl, ⟨xs, h1, h2, h3⟩, h4⟩ := h
    exact ⟨p, rfl, ⟨_, h1⟩, h3, .inr h4⟩
  | ownD ds =>
    obtain ⟨p, rfl, ⟨xs, h1, h2, h3⟩, h4⟩ := h
    exact ⟨p, rfl, ⟨_, h1⟩, h3, .inl h4⟩
theorem EntO.mem_ok (h : EntO K B F H r u) (hp : p ∈ ownA r u) : (∃ o, H p = some o) ∧ F p = none := by
  obtain ⟨ho, e⟩ := ownA_mem.mp hp
  obtain ⟨q, e2, h1, h2, _⟩ := h.own_ok ho
  rw [e] at e2
  cases e2
  exact ⟨h1, h2⟩
theorem StOk.ownE_ok (S : StOk K B F H E T) (hp : p ∈ E.flatMap ownE) : (∃ o, H p = some o) ∧ F p = none := by
  obtain ⟨⟨r, v⟩, hx, hp⟩ := List.mem_flatMap.mp hp
  cases v with
  | none => simp [ownE] at hp
  | some u =>
    have hp : p ∈ ownA r u := hp
    rcases S.entE _ hx with h | ⟨w, e, h⟩
    · have h : r = .any := h
      subst h
      simp [ownA, R.isOwn] at hp
    · cases e
      exact h.mem_ok hp
theorem StOk.ownT_ok (S : StOk K B F H E T) (hp : p ∈ T.flatMap ownT) : (∃ o, H p = some o) ∧ F p = none := by
  obtain ⟨⟨r, u⟩, hx, hp⟩ := List.mem_flatMap.mp hp
  have hp : p ∈ ownA r u := hp
  rcases S.entT _ hx with h | ⟨j, r', e, _, _⟩
  · exact h.mem_ok hp
  · have e : r = .loc j := e
    subst e
    simp [ownA, R.isOwn] at hp
theorem At.get {lk : Addr → Option Obj} {a : Addr} {o : HO} (h : At lk H a o) : ∃ u, H a = some u := by
  unfold At at h
  cases e : lk a with
  | none => rw [e] at h; exact ⟨_, h⟩
  | some ob => rw [e] at h; exact ⟨_, h⟩
theorem At.nolk {lk : Addr → Option Obj} {a : Addr} {o : HO} (e : lk a = none) : At lk H a o ↔ H a = some o := by
  unfold At; rw [e]
theorem Kept.get {a : Addr} {o : HO} (h : Kept B H a o) : ∃ u, H a = some u := by
  rcases h with h | ⟨_, ob, _, h⟩
  · exact ⟨_, h.2⟩
  · exact ⟨_, h⟩
/-- a free address is not in F, and was free at the entry -/
theorem StOk.free (S : StOk K B F H E T) (h : H p = none) : F p = none ∧ B.He p = none ∧ p ∉ E.flatMap ownE ∧ p ∉ T.flatMap ownT ∧ B.lk p = none := by
  have hF : F p = none := by
    cases e : F p with
    | none => rfl
    | some o =>
      obtain ⟨u, hu⟩ := (S.le p o e).get
      rw [h] at hu; cases hu
  refine ⟨hF, ?_, ?_, ?_, ?_⟩
  · by_cases hm : p ∈ B.mu
    · obtain ⟨o, ho⟩ := S.mus p hm
      rw [h] at ho; cases ho
    · cases e : B.He p with
      | none => rfl
      | some o =>
        obtain ⟨u, hu⟩ := (S.keep p o e hm).get
        rw [h] at hu; cases hu
  · intro hp
    obtain ⟨⟨o, ho⟩, _⟩ := S.ownE_ok hp
    rw [h] at ho; cases ho
  · intro hp
    obtain ⟨⟨o, ho⟩, _⟩ := S.ownT_ok hp
    rw [h] at ho; cases ho
  · cases e : B.lk p with
    | none => rfl
    | some ob =>
      obtain ⟨kvs, hk⟩ := S.lkd p ob e
      rw [hF] at hk; cases hk
theorem OwnL.mono {ds : List D} (h : OwnL K F H ds p) (eF : Ext F F') (h1 : H' p = H p) (h2 : F' p = none) : OwnL K F' H' ds p := by
  obtain ⟨xs, a, b, c⟩ := h
  exact ⟨xs, h1.trans a, Reps.ext eF _ _ b, h2⟩
theorem OwnD.mono {ds : List (Key × D)} (h : OwnD K F H ds p) (eF : Ext F F') (h1 : H' p = H p) (h2 : F' p = none) : OwnD K F' H' ds p := by
  obtain ⟨xs, a, b, c⟩ := h
  exact ⟨xs, h1.trans a, RepK.ext eF _ _ b, h2⟩
theorem EntO.mono (h : EntO K B F H r u) (eF : Ext F F') (hH : ∀ p ∈ ownA r u, H' p = H p ∧ F' p = none) : EntO K B F' H' r u := by
  cases r with
  | any => trivial
  | imm d => exact Rep.ext eF _ _ h
  | loc j => exact h.elim
  | own ds =>
    obtain ⟨q, rfl, h1, h4⟩ := h
    obtain ⟨e1, e2⟩ := hH q (ownA_mem.mpr ⟨rfl, rfl⟩)
    exact ⟨q, rfl, h1.mono eF e1 e2, h4⟩
  | box ds =>
    obtain ⟨q, rfl, h1, h4⟩ := h
    obtain ⟨e1, e2⟩ := hH q (ownA_mem.mpr ⟨rfl, rfl⟩)
    exact ⟨q, rfl, h1.mono eF e1 e2, h4⟩
  | ownD ds =>
    obtain ⟨q, rfl, h1, h4⟩ := h
    obtain ⟨e1, e2⟩ := hH q (ownA_mem.mpr ⟨rfl, rfl⟩)
    exact ⟨q, rfl, h1.mono eF e1 e2, h4⟩
theorem EntE.mono {x : R × Option V} (h : EntE K B F H x) (eF : Ext F F') (hH : ∀ p ∈ ownE x, H' p = H p ∧ F' p = none) : EntE K B F' H' x := by
  obtain ⟨r, v⟩ := x
  rcases h with h | ⟨u, e, h⟩
  · exact .inl h
  · have e : v = some u := e
    subst e
    exact .inr ⟨u, rfl, EntO.mono h eF hH⟩
theorem EntT.mono {x : R × V} (h : EntT K B F H E x) (eF : Ext F F') (hH : ∀ p ∈ ownT x, H' p = H p ∧ F' p = none) : EntT K B F' H' E x := by
  obtain ⟨r, u⟩ := x
  rcases h with h | h
  · exact .inl (EntO.mono h eF hH)
  · exact .inr h
/-- a temporary more -/
theorem StOk.push (S : StOk K B F H E T) (h : EntT K B F H E (r, u)) (hn : ∀ p ∈ ownA r u, p ∉ E.flatMap ownE ∧ p ∉ T.flatMap ownT) : StOk K B F H E ((r, u) :: T) where
  le := S.le
  sup := S.sup
  new := S.new
  keep := S.keep
  mus := S.mus
  lkd := S.lkd
  entE := S.entE
  entT := fun x hx => by
    rcases List.mem_cons.mp hx with rfl | hx
    · exact h
    · exact S.entT x hx
  dis := by
    have hd := S.dis
    have hp : (ownA r u ++ (E.flatMap ownE ++ T.flatMap ownT)).Nodup := by
      rw [List.nodup_append]
      refine ⟨?_, hd, ?_⟩
      · unfold ownA
        split
        · split <;> simp
        · simp
      · intro a ha b hb e
        subst e
        obtain ⟨h1, h2⟩ := hn a ha
        rcases List.mem_append.mp hb with hb | hb
        · exact h1 hb
        · exact h2 hb
    refine (List.Perm.nodup_iff ?_).mp hp
    rw [List.flatMap_cons, ← List.append_assoc, ← List.append_assoc]
    exact List.Perm.append_right _ List.perm_append_comm
theorem StOk.imm (S : StOk K B F H E T) {d : D} (h : Rep K F d u) : StOk K B F H E ((.imm d, u) :: T) :=
  S.push (.inl h) fun p hp => by simp [ownA, R.isOwn] at hp
theorem StOk.locP (S : StOk K B F H E T) {j : Nat} (h : E[j]? = some (r, some u)) (ho : r.isOwn = true) : StOk K B F H E ((.loc j, u) :: T) :=
  S.push (.inr ⟨j, r, rfl, h, ho⟩) fun p hp => by simp [ownA, R.isOwn] at hp
theorem flatMap_sub {α β : Type} (f : α → List β) : ∀ {l l' : List α}, l'.Sublist l → (l'.flatMap f).Sublist (l.flatMap f)
  | _, _, .slnil => List.Sublist.refl _
  | _, _, .cons a h => by
    rw [List.flatMap_cons]
    exact (flatMap_sub f h).trans (List.sublist_append_right _ _)
  | _, _, .cons_cons a h => by
    rw [List.flatMap_cons, List.flatMap_cons]
    exact (List.Sublist.refl _).append (flatMap_sub f h)
/-- temporaries forgotten -/
theorem StOk.sub (S : StOk K B F H E T) {T' : List (R × V)} (h : T'.Sublist T) : StOk K B F H E T' where
  le := S.le
  sup := S.sup
  new := S.new
  keep := S.keep
  mus := S.mus
  lkd := S.lkd
  entE := S.entE
  entT := fun x hx => S.entT x (h.subset hx)
  dis := S.dis.sublist ((List.Sublist.refl _).append (flatMap_sub _ h))
theorem StOk.pop {x : R × V} (S : StOk K B F H E (x :: T)) : StOk K B F H E T := S.sub (List.sublist_cons_self _ _)
theorem StOk.pop2 {x y : R × V} (S : StOk K B F H E (x :: y :: T)) : StOk K B F H E (x :: T) := S.sub (.cons_cons _ (List.sublist_cons_self _ _))
theorem StOk.pop3 {x y z : R × V} (S : StOk K B F H E (x :: y :: z :: T)) : StOk K B F H E (x :: T) := S.sub (.cons_cons _ ((List.sublist_cons_self _ _).trans (List.sublist_cons_self _ _)))
/-- the heap grows: an address that was free -/
theorem StOk.grow (S : StOk K B F H E T) {o : HO} (hp : H p = none) (eF : Ext F F') (hF : ∀ a u, F' a = some u → F a = some u ∨ (a = p ∧ u = o)) : StOk K B F' (upd H p o) E T := by
  obtain ⟨f1, f2, f3, f4, f5⟩ := S.free hp
  have hne : ∀ {a : Addr} {u : HO}, H a = some u → a ≠ p := fun h => ne_of_none h hp
  have keepO : ∀ q, (∃ o, H q = some o) ∧ F q = none → (upd H p o) q = H q ∧ F' q = none := fun q ⟨⟨u, hu⟩, hq⟩ => by
    refine ⟨upd_ne (hne hu), ?_⟩
    cases e : F' q with
    | none => rfl
    | some w =>
      rcases hF q w e with h | ⟨h, _⟩
      · rw [hq] at h; cases h
      · exact absurd h (hne hu)
  refine ⟨fun a u h => ?_, fun a u h => eF _ _ (S.sup a u h), fun a u h => ?_, fun a u h hm => ?_, fun a hm => ?_, fun a ob h => ?_, fun x hx => ?_, fun x hx => ?_, S.dis⟩
  · rcases hF a u h with h | ⟨rfl, rfl⟩
    · have := S.le a u h
      unfold At at this ⊢
      cases e : B.lk a with
      | none => rw [e] at this; exact (upd_ne (hne this)).trans this
      | some ob => rw [e] at this; exact (upd_ne (hne this)).trans this
    · rw [At.nolk f5]; exact upd_same
  · rcases hF a u h with h | ⟨rfl, rfl⟩
    · exact S.new a u h
    · exact .inr f2
  · rcases S.keep a u h hm with ⟨e, h⟩ | ⟨e, ob, e2, h⟩
    · exact .inl ⟨e, (upd_ne (hne h)).trans h⟩
    · exact .inr ⟨e, ob, e2, (upd_ne (hne h)).trans h⟩
  · obtain ⟨u, hu⟩ := S.mus a hm
    exact ⟨u, (upd_ne (hne hu)).trans hu⟩
  · obtain ⟨kvs, hk⟩ := S.lkd a ob h
    exact ⟨kvs, eF _ _ hk⟩
  · exact (S.entE x hx).mono eF fun q hq => keepO q (S.ownE_ok (List.mem_flatMap.mpr ⟨x, hx, hq⟩))
  · exact (S.entT x hx).mono eF fun q hq => keepO q (S.ownT_ok (List.mem_flatMap.mpr ⟨x, hx, hq⟩))
/-- a new list -/
theorem StOk.newL (S : StOk K B F H E T) {ds : List D} {xs : List V} (hp : H p = none) (h : Reps K F ds xs) : StOk K B F (upd H p (.lst xs)) E ((.own ds, .ref p) :: T) := by
  obtain ⟨f1, f2, f3, f4, f5⟩ := S.free hp
  refine (S.grow hp (Ext.refl F) fun a u h => .inl h).push (.inl ⟨p, rfl, ⟨xs, upd_same, h, f1⟩, f2⟩) fun q hq => ?_
  obtain ⟨_, e⟩ := ownA_mem.mp hq
  cases e
  exact ⟨f3, f4⟩
theorem StOk.newD (S : StOk K B F H E T) {ds : List (Key × D)} {xs : List (Key × V)} (hp : H p = none) (h : RepK K F ds xs) : StOk K B F (upd H p (.dK xs)) E ((.ownD ds, .ref p) :: T) := by
  obtain ⟨f1, f2, f3, f4, f5⟩ := S.free hp
  refine (S.grow hp (Ext.refl F) fun a u h => .inl h).push (.inl ⟨p, rfl, ⟨xs, upd_same, h, f1⟩, f2⟩) fun q hq => ?_
  obtain ⟨_, e⟩ := ownA_mem.mp hq
  cases e
  exact ⟨f3, f4⟩
theorem upd_or {o : HO} {a : Addr} {u : HO} (h : upd F p o a = some u) : F a = some u ∨ (a = p ∧ u = o) := by
  by_cases e : a = p
  · subst e; rw [upd_same] at h; cases h; exact .inr ⟨rfl, rfl⟩
  · rw [upd_ne e] at h; exact .inl h
/-- a new tuple -/
theorem StOk.newT (S : StOk K B F H E T) {ds : List D} {xs : List V} (hp : H p = none) (h : Reps K F ds xs) : StOk K B (upd F p (.tup xs)) (upd H p (.tup xs)) E ((.imm (.tup ds), .ref p) :: T) := by
  obtain ⟨f1, f2, f3, f4, f5⟩ := S.free hp
  refine (S.grow hp (Ext.new f1) fun a u h => upd_or h).imm ?_
  rw [Rep]
  exact ⟨p, xs, rfl, .inl (.inl upd_same), Reps.ext (Ext.new f1) _ _ h⟩
end
end DL

set_option maxRecDepth 100000
set_option maxHeartbeats 1000000
/-! The data layer: changes of the state. -/
namespace DL
open PySem L2 PyProof.Rows
section
variable {K : PySem.W.Frag} {B : Bas} {F H F' H' : Hp} {E : List (R × Option V)} {T : List (R × V)} {p : Addr} {r : R} {u : V}

theorem split_at {α : Type} : ∀ {l : List α} {j : Nat} {x : α}, l[j]? = some x → ∃ a c, l = a ++ x :: c ∧ a.length = j ∧ ∀ y, l.set j y = a ++ y :: c
  | [], j, x, h => by simp at h
  | b :: l, 0, x, h => by
    simp at h; subst h
    exact ⟨[], l, rfl, rfl, fun y => rfl⟩
  | b :: l, j + 1, x, h => by
    obtain ⟨a, c, e1, e2, e3⟩ := split_at (l := l) (j := j) (x := x) (by simpa using h)
    refine ⟨b :: a, c, by rw [e1]; rfl, by simp [e2], fun y => ?_⟩
    rw [List.set_cons_succ, e3]; rfl
theorem OwnL.At (h : OwnL K F H ds p) (S : StOk K B F H E T) : B.lk p = none := by
  cases e : B.lk p with
  | none => rfl
  | some ob =>
    obtain ⟨kvs, hk⟩ := S.lkd p ob e
    obtain ⟨xs, _, _, h3⟩ := h
    rw [h3] at hk; cases hk
/-- F takes in what stands at p in H -/
theorem StOk.take (S : StOk K B F H E T) {o : HO} (hp : H p = some o) (hF : F p = none) (he : B.He p = none) {E' : List (R × Option V)} {T' : List (R × V)}
    (hE : ∀ x ∈ E', EntE K B (upd F p o) H x) (hT : ∀ x ∈ T', EntT K B (upd F p o) H E' x) (hd : (E'.flatMap ownE ++ T'.flatMap ownT).Nodup) : StOk K B (upd F p o) H E' T' where
  le := fun a u h => by
    rcases upd_or h with h | ⟨rfl, rfl⟩
    · exact S.le a u h
    · refine (At.nolk ?_).mpr hp
      cases e : B.lk a with
      | none => rfl
      | some ob =>
        obtain ⟨kvs, hk⟩ := S.lkd a ob e
        rw [hF] at hk; cases hk
  sup := fun a u h => Ext.new hF a u (S.sup a u h)
  new := fun a u h => by
    rcases upd_or h with h | ⟨rfl, rfl⟩
    · exact S.new a u h
    · exact .inr he
  keep := S.keep
  mus := S.mus
  lkd := fun a ob h => by
    obtain ⟨kvs, hk⟩ := S.lkd a ob h
    exact ⟨kvs, Ext.new hF _ _ hk⟩
  entE := hE
  entT := hT
  dis := hd
theorem upd_none {o : HO} {q : Addr} (h : F q = none) (hq : q ≠ p) : upd F p o q = none := (upd_ne hq).trans h
/-- a temporary is given up: nobody changes it any more -/
theorem StOk.freezeT {ds : List D} (S : StOk K B F H E ((.own ds, u) :: T)) : ∃ F', Ext F F' ∧ StOk K B F' H E ((.imm (.lst ds), u) :: T) := by
  rcases S.entT _ List.mem_cons_self with h | ⟨j, r, h, _⟩
  · obtain ⟨p, e, ⟨xs, h1, h2, h3⟩, h4⟩ := h
    have e : u = .ref p := e
    subst e
    have hd := S.dis
    have hn : p ∉ E.flatMap ownE ∧ p ∉ T.flatMap ownT := by
      rw [List.flatMap_cons] at hd
      have hm : p ∈ ownT (R.own ds, V.ref p) := ownA_mem.mpr ⟨rfl, rfl⟩
      rw [List.nodup_append] at hd
      obtain ⟨_, hb, hc⟩ := hd
      rw [List.nodup_append] at hb
      exact ⟨fun z => hc p z p (List.mem_append_left _ hm) rfl, fun z => hb.2.2 p hm p z rfl⟩
    refine ⟨upd F p (.lst xs), Ext.new h3, S.take h1 h3 h4 (fun x hx => ?_) (fun x hx => ?_) ?_⟩
    · exact (S.entE x hx).mono (Ext.new h3) fun q hq => ⟨rfl, upd_none (S.ownE_ok (List.mem_flatMap.mpr ⟨x, hx, hq⟩)).2 fun e => hn.1 (e ▸ List.mem_flatMap.mpr ⟨x, hx, hq⟩)⟩
    · rcases List.mem_cons.mp hx with rfl | hx
      · refine .inl ?_
        show Rep K _ _ _
        rw [Rep]
        exact ⟨p, xs, rfl, upd_same, Reps.ext (Ext.new h3) _ _ h2⟩
      · exact (S.entT x (List.mem_cons_of_mem _ hx)).mono (Ext.new h3) fun q hq => ⟨rfl, upd_none (S.pop.ownT_ok (List.mem_flatMap.mpr ⟨x, hx, hq⟩)).2 fun e => hn.2 (e ▸ List.mem_flatMap.mpr ⟨x, hx, hq⟩)⟩
    · exact S.pop.dis
  · cases h
theorem StOk.freezeTD {ds : List (Key × D)} (S : StOk K B F H E ((.ownD ds, u) :: T)) : ∃ F', Ext F F' ∧ StOk K B F' H E ((.imm (.dic ds), u) :: T) := by
  rcases S.entT _ List.mem_cons_self with h | ⟨j, r, h, _⟩
  · obtain ⟨p, e, ⟨xs, h1, h2, h3⟩, h4⟩ := h
    have e : u = .ref p := e
    subst e
    have hd := S.dis
    have hn : p ∉ E.flatMap ownE ∧ p ∉ T.flatMap ownT := by
      rw [List.flatMap_cons] at hd
      have hm : p ∈ ownT (R.ownD ds, V.ref p) := ownA_mem.mpr ⟨rfl, rfl⟩
      rw [List.nodup_append] at hd
      obtain ⟨_, hb, hc⟩ := hd
      rw [List.nodup_append] at hb
      exact ⟨fun z => hc p z p (List.mem_append_left _ hm) rfl, fun z => hb.2.2 p hm p z rfl⟩
    refine ⟨upd F p (.dK xs), Ext.new h3, S.take h1 h3 h4 (fun x hx => ?_) (fun x hx => ?_) ?_⟩
    · exact (S.entE x hx).mono (Ext.new h3) fun q hq => ⟨rfl, upd_none (S.ownE_ok (List.mem_flatMap.mpr ⟨x, hx, hq⟩)).2 fun e => hn.1 (e ▸ List.mem_flatMap.mpr ⟨x, hx, hq⟩)⟩
    · rcases List.mem_cons.mp hx with rfl | hx
      · refine .inl ?_
        show Rep K _ _ _
        rw [Rep]
        exact ⟨p, xs, rfl, upd_same, RepK.ext (Ext.new h3) _ _ h2⟩
      · exact (S.entT x (List.mem_cons_of_mem _ hx)).mono (Ext.new h3) fun q hq => ⟨rfl, upd_none (S.pop.ownT_ok (List.mem_flatMap.mpr ⟨x, hx, hq⟩)).2 fun e => hn.2 (e ▸ List.mem_flatMap.mpr ⟨x, hx, hq⟩)⟩
    · exact S.pop.dis
  · cases h
theorem get_of_map {es : List R} {i : Nat} (h : E.map (·.1) = es) (e : es[i]? = some r) : ∃ v, E[i]? = some (r, v) := by
  subst h
  rw [List.getElem?_map] at e
  cases q : E[i]? with
  | none => rw [q] at e; cases e
  | some x => rw [q] at e; obtain ⟨a, b⟩ := x; simp at e; subst e; exact ⟨b, rfl⟩
def NoLoc (T : List (R × V)) : Prop := ∀ x ∈ T, x.1.noLoc = true
theorem EntT.noloc {x : R × V} (h : EntT K B F H E x) (hl : x.1.noLoc = true) : EntO K B F H x.1 x.2 := by
  rcases h with h | ⟨j, r, e, _⟩
  · exact h
  · rw [e] at hl; cases hl
/-- the top temporary goes to slot i -/
theorem StOk.setG (S : StOk K B F H E ((r, u) :: T)) (hr : r.noLoc = true) {i : Nat} (hT : ∀ x ∈ T, x.1 ≠ .loc i) : StOk K B F H (E.set i (r, some u)) T := by
  have h0 := (S.entT _ List.mem_cons_self).noloc hr
  refine ⟨S.le, S.sup, S.new, S.keep, S.mus, S.lkd, fun x hx => ?_, fun x hx => ?_, ?_⟩
  · rcases List.mem_or_eq_of_mem_set hx with hx | rfl
    · exact S.entE x hx
    · exact .inr ⟨u, rfl, h0⟩
  · rcases S.entT x (List.mem_cons_of_mem _ hx) with h | ⟨j, r0, e0, h, ho⟩
    · exact .inl h
    · have hij : i ≠ j := fun e => hT x hx (e ▸ e0)
      exact .inr ⟨j, r0, e0, by rw [List.getElem?_set_ne hij]; exact h, ho⟩
  · have hd := S.dis
    rw [List.flatMap_cons] at hd
    cases q : E[i]? with
    | none =>
      rw [List.set_eq_of_length_le (by simpa using q)]
      exact S.pop.dis
    | some y =>
      obtain ⟨a, c, e1, e2, e3⟩ := split_at q
      rw [e3]
      rw [e1] at hd
      have hs : (a.flatMap ownE ++ c.flatMap ownE ++ (ownT (r, u) ++ T.flatMap ownT)).Nodup := by
        refine hd.sublist ((List.Sublist.append ?_ (List.Sublist.refl _)))
        rw [List.flatMap_append, List.flatMap_cons]
        exact (List.Sublist.refl _).append (List.sublist_append_right _ _)
      refine (List.Perm.nodup_iff ?_).mp hs
      rw [List.flatMap_append, List.flatMap_cons]
      show (a.flatMap ownE ++ c.flatMap ownE ++ (ownA r u ++ T.flatMap ownT)).Perm (a.flatMap ownE ++ (ownA r u ++ c.flatMap ownE) ++ T.flatMap ownT)
      rw [List.append_assoc, List.append_assoc, List.append_assoc]
      refine List.Perm.append_left _ ?_
      rw [← List.append_assoc, ← List.append_assoc]
      exact List.Perm.append_right _ List.perm_append_comm
theorem NoLoc.ne (hT : NoLoc T) {i : Nat} : ∀ x ∈ T, x.1 ≠ .loc i := fun x hx e => by
  have := hT x hx
  rw [e] at this; cases this
theorem StOk.setS (S : StOk K B F H E ((r, u) :: T)) (hr : r.noLoc = true) (hT : NoLoc T) {i : Nat} : StOk K B F H (E.set i (r, some u)) T := S.setG hr hT.ne
/-- a slot is forgotten -/
theorem StOk.any (S : StOk K B F H E T) {i : Nat} {v : Option V} (hT : ∀ x ∈ T, x.1 ≠ .loc i) : StOk K B F H (E.set i (.any, v)) T := by
  refine ⟨S.le, S.sup, S.new, S.keep, S.mus, S.lkd, fun x hx => ?_, fun x hx => ?_, ?_⟩
  · rcases List.mem_or_eq_of_mem_set hx with hx | rfl
    · exact S.entE x hx
    · exact .inl rfl
  · rcases S.entT x hx with h | ⟨j, r0, e0, h, ho⟩
    · exact .inl h
    · have hij : i ≠ j := fun e => hT x hx (e ▸ e0)
      exact .inr ⟨j, r0, e0, by rw [List.getElem?_set_ne hij]; exact h, ho⟩
  · refine S.dis.sublist (List.Sublist.append ?_ (List.Sublist.refl _))
    cases q : E[i]? with
    | none => rw [List.set_eq_of_length_le (by simpa using q)]; exact List.Sublist.refl _
    | some y =>
      obtain ⟨a, c, e1, e2, e3⟩ := split_at q
      rw [e3, e1, List.flatMap_append, List.flatMap_append, List.flatMap_cons, List.flatMap_cons]
      refine (List.Sublist.refl _).append ?_
      have : ownE (R.any, v) = [] := by cases v <;> rfl
      rw [this]
      exact List.sublist_append_right _ _
/-- no temporary is what slot i holds, where i is not owned -/
theorem StOk.noLocAt (S : StOk K B F H E T) {i : Nat} (h : ∀ r v, E[i]? = some (r, v) → r.isOwn = false) : ∀ x ∈ T, x.1 ≠ .loc i := fun x hx e => by
  rcases S.entT x hx with h' | ⟨j, r0, e0, h', ho⟩
  · rw [e] at h'; exact h'
  · rw [e] at e0
    cases e0
    rw [h _ _ h'] at ho; cases ho
theorem StOk.nodup_slot (S : StOk K B F H E T) {j : Nat} {x : R × Option V} (h : E[j]? = some x) (hp : p ∈ ownE x) : (∀ k y, k ≠ j → E[k]? = some y → p ∉ ownE y) ∧ p ∉ T.flatMap ownT := by
  obtain ⟨a, c, e1, e2, e3⟩ := split_at h
  have hd := S.dis
  rw [e1, List.flatMap_append, List.flatMap_cons, List.nodup_append] at hd
  obtain ⟨h1, h2, h3⟩ := hd
  rw [List.nodup_append] at h1
  obtain ⟨h4, h5, h6⟩ := h1
  rw [List.nodup_append] at h5
  refine ⟨fun k y hk hy hz => ?_, fun hz => h3 p (List.mem_append_right _ (List.mem_append_left _ hp)) p hz rfl⟩
  have hm : y ∈ a ∨ y ∈ c := by
    rw [e1, List.getElem?_append] at hy
    split at hy
    · exact .inl (List.mem_of_getElem? hy)
    · rename_i hlt
      cases q : k - a.length with
      | zero => omega
      | succ n => rw [q] at hy; exact .inr (List.mem_of_getElem? (i := n) (by simpa using hy))
  rcases hm with hm | hm
  · exact h6 p (List.mem_flatMap.mpr ⟨y, hm, hz⟩) p (List.mem_append_left _ hp) rfl
  · exact h5.2.2 p hp p (List.mem_flatMap.mpr ⟨y, hm, hz⟩) rfl
/-- what slot j holds is taken out -/
theorem StOk.move {j : Nat} (S : StOk K B F H E ((.loc j, u) :: T)) (h : (E.map (·.1))[j]? = some r) (hT : NoLoc T) : StOk K B F H (E.set j (.any, some u)) ((r, u) :: T) := by
  rcases S.entT _ List.mem_cons_self with h' | ⟨k, r0, e, hk, ho⟩
  · cases h'
  · cases e
    rw [List.getElem?_map, hk] at h
    cases h
    have hO : EntO K B F H r0 u := by
      rcases S.entE _ (List.mem_of_getElem? hk) with q | ⟨w, e, q⟩
      · have q : r0 = .any := q
        subst q; cases ho
      · cases e; exact q
    refine (S.pop.any hT.ne).push (.inl hO) fun p hp => ?_
    obtain ⟨n1, n2⟩ := S.nodup_slot hk (p := p) hp
    refine ⟨fun hm => ?_, fun hm => n2 (by rw [List.flatMap_cons]; exact List.mem_append_right _ hm)⟩
    obtain ⟨x, hx, hp'⟩ := List.mem_flatMap.mp hm
    obtain ⟨k, hk'⟩ := List.mem_iff_getElem?.mp hx
    by_cases e : j = k
    · subst e
      rw [List.getElem?_set_self (List.getElem?_eq_some_iff.mp hk).1] at hk'
      cases hk'
      have hp' : p ∈ ownA .any u := hp'
      simp [ownA, R.isOwn] at hp'
    · rw [List.getElem?_set_ne e] at hk'
      exact n1 k x (Ne.symm e) hk' hp'
/-- slot j is given up -/
theorem StOk.freezeS {ds : List D} {v : Option V} {j : Nat} (S : StOk K B F H E T) (hT : NoLoc T) (h : E[j]? = some (.own ds, v)) : ∃ F', Ext F F' ∧ StOk K B F' H (E.set j (.imm (.lst ds), v)) T := by
  rcases S.entE _ (List.mem_of_getElem? h) with h' | ⟨u, e, p, e2, ⟨xs, h1, h2, h3⟩, h4⟩
  · cases h'
  · have e : v = some u := e
    have e2 : u = .ref p := e2
    subst e e2
    obtain ⟨n1, n2⟩ := S.nodup_slot h (p := p) (ownA_mem.mpr ⟨rfl, rfl⟩)
    refine ⟨upd F p (.lst xs), Ext.new h3, S.take h1 h3 h4 (fun x hx => ?_) (fun x hx => ?_) ?_⟩
    · obtain ⟨k, hk⟩ := List.mem_iff_getElem?.mp hx
      by_cases e : j = k
      · subst e
        rw [List.getElem?_set_self (List.getElem?_eq_some_iff.mp h).1] at hk
        cases hk
        refine .inr ⟨_, rfl, ?_⟩
        show Rep K _ _ _
        rw [Rep]
        exact ⟨p, xs, rfl, upd_same, Reps.ext (Ext.new h3) _ _ h2⟩
      · rw [List.getElem?_set_ne e] at hk
        have hx := List.mem_of_getElem? hk
        exact (S.entE x hx).mono (Ext.new h3) fun q hq => ⟨rfl, upd_none (S.ownE_ok (List.mem_flatMap.mpr ⟨x, hx, hq⟩)).2 fun e2 => n1 k x (Ne.symm e) hk (e2 ▸ hq)⟩
    · refine .inl ?_
      have := (S.entT x hx).noloc (hT x hx)
      exact this.mono (Ext.new h3) fun q hq => ⟨rfl, upd_none (S.ownT_ok (List.mem_flatMap.mpr ⟨x, hx, hq⟩)).2 fun e2 => n2 (e2 ▸ List.mem_flatMap.mpr ⟨x, hx, hq⟩)⟩
    · refine S.dis.sublist (List.Sublist.append ?_ (List.Sublist.refl _))
      obtain ⟨a, c, e1, e2, e3⟩ := split_at h
      rw [e3, e1, List.flatMap_append, List.flatMap_append, List.flatMap_cons, List.flatMap_cons]
      exact (List.Sublist.refl _).append (List.sublist_append_right _ _)
theorem StOk.freezeSD {ds : List (Key × D)} {v : Option V} {j : Nat} (S : StOk K B F H E T) (hT : NoLoc T) (h : E[j]? = some (.ownD ds, v)) : ∃ F', Ext F F' ∧ StOk K B F' H (E.set j (.imm (.dic ds), v)) T := by
  rcases S.entE _ (List.mem_of_getElem? h) with h' | ⟨u, e, p, e2, ⟨xs, h1, h2, h3⟩, h4⟩
  · cases h'
  · have e : v = some u := e
    have e2 : u = .ref p := e2
    subst e e2
    obtain ⟨n1, n2⟩ := S.nodup_slot h (p := p) (ownA_mem.mpr ⟨rfl, rfl⟩)
    refine ⟨upd F p (.dK xs), Ext.new h3, S.take h1 h3 h4 (fun x hx => ?_) (fun x hx => ?_) ?_⟩
    · obtain ⟨k, hk⟩ := List.mem_iff_getElem?.mp hx
      by_cases e : j = k
      · subst e
        rw [List.getElem?_set_self (List.getElem?_eq_some_iff.mp h).1] at hk
        cases hk
        refine .inr ⟨_, rfl, ?_⟩
        show Rep K _ _ _
        rw [Rep]
        exact ⟨p, xs, rfl, upd_same, RepK.ext (Ext.new h3) _ _ h2⟩
      · rw [List.getElem?_set_ne e] at hk
        have hx := List.mem_of_getElem? hk
        exact (S.entE x hx).mono (Ext.new h3) fun q hq => ⟨rfl, upd_none (S.ownE_ok (List.mem_flatMap.mpr ⟨x, hx, hq⟩)).2 fun e2 => n1 k x (Ne.symm e) hk (e2 ▸ hq)⟩
    · refine .inl ?_
      have := (S.entT x hx).noloc (hT x hx)
      exact this.mono (Ext.new h3) fun q hq => ⟨rfl, upd_none (S.ownT_ok (List.mem_flatMap.mpr ⟨x, hx, hq⟩)).2 fun e2 => n2 (e2 ▸ List.mem_flatMap.mpr ⟨x, hx, hq⟩)⟩
    · refine S.dis.sublist (List.Sublist.append ?_ (List.Sublist.refl _))
      obtain ⟨a, c, e1, e2, e3⟩ := split_at h
      rw [e3, e1, List.flatMap_append, List.flatMap_append, List.flatMap_cons, List.flatMap_cons]
      exact (List.Sublist.refl _).append (List.sublist_append_right _ _)
/-- the object of slot j is changed -/
theorem StOk.mut {r' : R} {j : Nat} {o : HO} (S : StOk K B F H E T) (h : E[j]? = some (r, some (.ref p))) (hr : r.isOwn = true) (hr' : r'.isOwn = true)
    (hn : EntO K B F H r (.ref p) → EntO K B F (upd H p o) r' (.ref p)) : StOk K B F (upd H p o) (E.set j (r', some (.ref p))) T := by
  have hO : EntO K B F H r (.ref p) := by
    rcases S.entE _ (List.mem_of_getElem? h) with h' | ⟨u, e, h'⟩
    · have h' : r = .any := h'
      subst h'; cases hr
    · cases e; exact h'
  obtain ⟨p', e', ⟨o0, ho0⟩, hF, hB⟩ := hO.own_ok hr
  cases e'
  obtain ⟨n1, n2⟩ := S.nodup_slot h (p := p) (ownA_mem.mpr ⟨hr, rfl⟩)
  have hlk : B.lk p = none := by
    cases e : B.lk p with
    | none => rfl
    | some ob =>
      obtain ⟨kvs, hk⟩ := S.lkd p ob e
      rw [hF] at hk; cases hk
  have hjl : j < E.length := (List.getElem?_eq_some_iff.mp h).1
  refine ⟨fun a u ha => ?_, S.sup, S.new, fun a u ha hm => ?_, fun a ha => ?_, S.lkd, fun x hx => ?_, fun x hx => ?_, ?_⟩
  · have hne : a ≠ p := fun e => by subst e; rw [hF] at ha; cases ha
    have := S.le a u ha
    unfold At at this ⊢
    cases e : B.lk a with
    | none => rw [e] at this; exact (upd_ne hne).trans this
    | some ob => rw [e] at this; exact (upd_ne hne).trans this
  · have hne : a ≠ p := fun e => by
      subst e
      rcases hB with hB | hB
      · rw [hB] at ha; cases ha
      · exact hm hB
    rcases S.keep a u ha hm with ⟨e, h⟩ | ⟨e, ob, e2, h⟩
    · exact .inl ⟨e, (upd_ne hne).trans h⟩
    · exact .inr ⟨e, ob, e2, (upd_ne hne).trans h⟩
  · by_cases e : a = p
    · subst e; exact ⟨_, upd_same⟩
    · obtain ⟨w, hw⟩ := S.mus a ha
      exact ⟨w, (upd_ne e).trans hw⟩
  · obtain ⟨k, hk⟩ := List.mem_iff_getElem?.mp hx
    by_cases e : j = k
    · subst e
      rw [List.getElem?_set_self hjl] at hk
      cases hk
      exact .inr ⟨_, rfl, hn hO⟩
    · rw [List.getElem?_set_ne e] at hk
      have hx := List.mem_of_getElem? hk
      exact (S.entE x hx).mono (Ext.refl F) fun q hq => ⟨upd_ne fun e2 => n1 k x (Ne.symm e) hk (e2 ▸ hq), (S.ownE_ok (List.mem_flatMap.mpr ⟨x, hx, hq⟩)).2⟩
  · rcases S.entT x hx with h' | ⟨k, r0, e0, h', ho⟩
    · exact .inl (h'.mono (Ext.refl F) fun q hq => ⟨upd_ne fun e2 => n2 (e2 ▸ List.mem_flatMap.mpr ⟨x, hx, hq⟩), (S.ownT_ok (List.mem_flatMap.mpr ⟨x, hx, hq⟩)).2⟩)
    · by_cases e : j = k
      · subst e
        rw [h] at h'
        have e5 : V.ref p = x.2 := by
          have := Option.some.inj h'
          exact Option.some.inj (congrArg Prod.snd this)
        exact .inr ⟨j, r', e0, by rw [List.getElem?_set_self hjl, e5], hr'⟩
      · exact .inr ⟨k, r0, e0, by rw [List.getElem?_set_ne e]; exact h', ho⟩
  · have hd := S.dis
    obtain ⟨a, c, e1, e2, e3⟩ := split_at h
    rw [e3, List.flatMap_append, List.flatMap_cons]
    rw [e1, List.flatMap_append, List.flatMap_cons] at hd
    have e4 : ownE (r', some (V.ref p)) = ownE (r, some (V.ref p)) := by
      show ownA r' (.ref p) = ownA r (.ref p)
      unfold ownA
      rw [hr, hr']
    rw [e4]; exact hd

/-! ### what is read -/
/-- d is read at v now: parts of it stand still -/
def Vw (K : PySem.W.Frag) (F H : Hp) (d : D) (v : V) : Prop :=
  Rep K F d v ∨ (∃ ds p, d = .lst ds ∧ v = .ref p ∧ OwnL K F H ds p) ∨ ∃ kvs p, d = .dic kvs ∧ v = .ref p ∧ OwnD K F H kvs p
theorem EntO.vw {d : D} (h : EntO K B F H r u) (e : r.data = some d) : Vw K F H d u := by
  cases r with
  | any => cases e
  | loc j => cases e
  | imm d' => cases e; exact .inl h
  | own ds => cases e; obtain ⟨p, e, h, _⟩ := h; exact .inr (.inl ⟨ds, p, rfl, e, h⟩)
  | box ds => cases e; obtain ⟨p, e, h, _⟩ := h; exact .inr (.inl ⟨ds, p, rfl, e, h⟩)
  | ownD ds => cases e; obtain ⟨p, e, h, _⟩ := h; exact .inr (.inr ⟨ds, p, rfl, e, h⟩)
theorem StOk.vw (S : StOk K B F H E T) {es : List R} (he : E.map (·.1) = es) (hx : (r, u) ∈ T) {d : D} (hv : view es r = some d) : Vw K F H d u := by
  rcases S.entT _ hx with h | ⟨j, r', e, h, ho⟩
  · cases r with
    | loc j => exact h.elim
    | any => cases hv
    | imm d' => exact EntO.vw h hv
    | own ds => exact EntO.vw h hv
    | box ds => exact EntO.vw h hv
    | ownD ds => exact EntO.vw h hv
  · have e : r = .loc j := e
    subst e
    subst he
    have hv : (match (E.map (·.1))[j]? with
      | some r => r.data
      | none => none) = some d := hv
    rw [List.getElem?_map, h] at hv
    have hm := List.mem_of_getElem? h
    rcases S.entE _ hm with h' | ⟨w, e, h'⟩
    · have h' : r' = .any := h'
      subst h'; cases hv
    · cases e
      exact EntO.vw h' hv
end
end DL

set_option maxRecDepth 100000
set_option maxHeartbeats 1000000
/-! The data layer: judgements; names, constants, operators, tests, displays, statements. -/
namespace DL
open PySem L2
open PyProof.Rows hiding St

/-! ### weakest readings -/
def wE (X : Cx) (e : Expr) : TE := fun σ H Q => ∀ pins s, Inv X pins σ H s → wpAny (model X.prog X.w) X.A (eval e X.env) (EP X pins σ Q) X.xe s
def wT (X : Cx) (e : Expr) : TT := fun σ H Q => ∀ pins s, Inv X pins σ H s → wpAny (model X.prog X.w) X.A (isTrue e X.env (eval e X.env)) (TP X pins σ Q) X.xe s
def wW (X : Cx) (e : Expr) : TT := fun σ H Q => ∀ (whole : Sem Value) pins s, Inv X pins σ H s → wpAny (model X.prog X.w) X.A (isTrue e X.env whole) (TP X pins σ Q) X.xe s
def wA (X : Cx) (es : List Expr) : TA := fun σ H Q => ∀ (pos : Pos) pins s, Inv X pins σ H s → wpAny (model X.prog X.w) X.A (spliced (backTo pos (starEach es X.env))) (AP X pins σ Q) X.xe s
def wS (X : Cx) (st : Stmt) : TS := fun D σ H => ∀ pins s, Inv X pins σ H s → wpAny (model X.prog X.w) X.A (exec st X.env) (SP X pins D) X.xe s
def wSs (X : Cx) (st : List Stmt) : TS := fun D σ H => ∀ pins s, Inv X pins σ H s → wpAny (model X.prog X.w) X.A (execs st X.env) (SP X pins D) X.xe s
def wO (X : Cx) (e : Option Expr) : TO := fun σ H Q => ∀ pins s, Inv X pins σ H s → wpAny (model X.prog X.w) X.A (evalPart e X.env) (fun u s' => ∃ o H', Inv X pins σ H' s' ∧ IsPart u o ∧ Q o H') X.xe s
section
variable {X : Cx}
theorem pe_w {e : Expr} : PE X e (wE X e) := ⟨fun pins s σ H Q I h => h pins s I⟩
theorem pt_w {e : Expr} : PT X e (wT X e) := ⟨fun pins s σ H Q I h => h pins s I⟩
theorem pw_w {e : Expr} : PW X e (wW X e) := ⟨fun wh pins s σ H Q I h => h wh pins s I⟩
theorem pa_w {e : List Expr} : PA X e (wA X e) := ⟨fun pos pins s σ H Q I h => h pos pins s I⟩
theorem ps_w {e : Stmt} : PS X e (wS X e) := ⟨fun pins s σ H D I h => h pins s I⟩
theorem pss_w {e : List Stmt} : PSs X e (wSs X e) := ⟨fun pins s σ H D I h => h pins s I⟩
theorem po_w {e : Option Expr} : PO X e (wO X e) := ⟨fun pins s σ H Q I h => h pins s I⟩
theorem of_pe {e : Expr} {t : TE} (h : PE X e t) {σ : St} {H : Hp} {Q : VK} (q : t σ H Q) : wE X e σ H Q := fun pins s I => h.run pins s σ H Q I q
theorem of_pt {e : Expr} {t : TT} (h : PT X e t) {σ : St} {H : Hp} {Q : Bool → Hp → Prop} (q : t σ H Q) : wT X e σ H Q := fun pins s I => h.run pins s σ H Q I q
theorem of_pw {e : Expr} {t : TT} (h : PW X e t) {σ : St} {H : Hp} {Q : Bool → Hp → Prop} (q : t σ H Q) : wW X e σ H Q := fun wh pins s I => h.run wh pins s σ H Q I q
theorem of_pa {e : List Expr} {t : TA} (h : PA X e t) {σ : St} {H : Hp} {Q : List V → Hp → Prop} (q : t σ H Q) : wA X e σ H Q := fun pos pins s I => h.run pos pins s σ H Q I q
theorem of_ps {e : Stmt} {t : TS} (h : PS X e t) {σ : St} {H : Hp} {D : Ends} (q : t D σ H) : wS X e D σ H := fun pins s I => h.run pins s σ H D I q
theorem of_pss {e : List Stmt} {t : TS} (h : PSs X e t) {σ : St} {H : Hp} {D : Ends} (q : t D σ H) : wSs X e D σ H := fun pins s I => h.run pins s σ H D I q
theorem of_po {e : Option Expr} {t : TO} (h : PO X e t) {σ : St} {H : Hp} {Q : Option Int → Hp → Prop} (q : t σ H Q) : wO X e σ H Q := fun pins s I => h.run pins s σ H Q I q
end

/-! ### judgements -/
abbrev EL := List (R × Option V)
abbrev TL := List (R × V)
def EV (X : Cx) (es : List R) (e : Expr) (es' : List R) (r : R) : Prop :=
  ∀ (B : Bas) (F H : Hp) (E : EL) (T : TL) (Q : VK), E.map (·.1) = es → StOk X.K B F H E T →
    (∀ v F' H' E', Ext F F' → E'.map (·.1) = es' → E'.map (·.2) = E.map (·.2) → StOk X.K B F' H' E' ((r, v) :: T) → Q v H') → wE X e (E.map (·.2)) H Q
def TV (X : Cx) (es : List R) (e : Expr) (es' : List R) (b : Bool) : Prop :=
  ∀ (B : Bas) (F H : Hp) (E : EL) (T : TL) (Q : Bool → Hp → Prop), E.map (·.1) = es → StOk X.K B F H E T →
    (∀ F' H' E', Ext F F' → E'.map (·.1) = es' → E'.map (·.2) = E.map (·.2) → StOk X.K B F' H' E' T → Q b H') → wT X e (E.map (·.2)) H Q
/-- an and, an or -/
def WV (X : Cx) (es : List R) (e : Expr) (es' : List R) (b : Bool) : Prop :=
  ∀ (B : Bas) (F H : Hp) (E : EL) (T : TL) (Q : Bool → Hp → Prop), E.map (·.1) = es → StOk X.K B F H E T →
    (∀ F' H' E', Ext F F' → E'.map (·.1) = es' → E'.map (·.2) = E.map (·.2) → StOk X.K B F' H' E' T → Q b H') → wW X e (E.map (·.2)) H Q
/-- arguments, from the left -/
def AV (X : Cx) (es : List R) (args : List Expr) (es' : List R) (rs : List R) : Prop :=
  ∀ (B : Bas) (F H : Hp) (E : EL) (T : TL) (Q : List V → Hp → Prop), E.map (·.1) = es → StOk X.K B F H E T →
    (∀ vs F' H' E', Ext F F' → E'.map (·.1) = es' → E'.map (·.2) = E.map (·.2) → vs.length = rs.length → StOk X.K B F' H' E' ((rs.zip vs).reverse ++ T) → Q vs H') → wA X args (E.map (·.2)) H Q
/-- a part of a slice -/
def OV (X : Cx) (es : List R) (e : Option Expr) (es' : List R) (o : Option Int) : Prop :=
  ∀ (B : Bas) (F H : Hp) (E : EL) (T : TL) (Q : Option Int → Hp → Prop), E.map (·.1) = es → StOk X.K B F H E T →
    (∀ F' H' E', Ext F F' → E'.map (·.1) = es' → E'.map (·.2) = E.map (·.2) → StOk X.K B F' H' E' T → Q o H') → wO X e (E.map (·.2)) H Q
structure Post where
  nx : List R → Prop
  rt : List R → R → Prop := fun _ _ => False
  bk : List R → Prop := fun _ => False
  ct : List R → Prop := fun _ => False
/-- the wanted ends serve the posts -/
structure Sat (K : PySem.W.Frag) (B : Bas) (F : Hp) (T : TL) (P : Post) (D : Ends) : Prop where
  nx : ∀ F' H' E', Ext F F' → StOk K B F' H' E' T → P.nx (E'.map (·.1)) → D.nx (E'.map (·.2)) H'
  rt : ∀ v r F' H' E', Ext F F' → StOk K B F' H' E' ((r, v) :: T) → P.rt (E'.map (·.1)) r → D.rt v H'
  bk : ∀ F' H' E', Ext F F' → StOk K B F' H' E' T → P.bk (E'.map (·.1)) → D.bk (E'.map (·.2)) H'
  ct : ∀ F' H' E', Ext F F' → StOk K B F' H' E' T → P.ct (E'.map (·.1)) → D.ct (E'.map (·.2)) H'
theorem Sat.mono {K : PySem.W.Frag} {B : Bas} {F F' : Hp} {T : TL} {P : Post} {D : Ends} (h : Sat K B F T P D) (e : Ext F F') : Sat K B F' T P D :=
  ⟨fun F2 H2 E2 e2 => h.nx F2 H2 E2 (e.trans e2), fun v r F2 H2 E2 e2 => h.rt v r F2 H2 E2 (e.trans e2), fun F2 H2 E2 e2 => h.bk F2 H2 E2 (e.trans e2), fun F2 H2 E2 e2 => h.ct F2 H2 E2 (e.trans e2)⟩
def SV (X : Cx) (es : List R) (sts : List Stmt) (P : Post) : Prop :=
  ∀ (B : Bas) (F H : Hp) (E : EL) (T : TL) (D : Ends), E.map (·.1) = es → NoLoc T → StOk X.K B F H E T → Sat X.K B F T P D → wSs X sts D (E.map (·.2)) H

section
variable {X : Cx} {es es1 es2 es3 : List R} {e a b c : Expr} {r ra rb : R} {pos : Pos}

theorem Vw.get {K : PySem.W.Frag} {F H : Hp} {i : Int} {v : V} (h : Vw K F H (.int i) v) : v = .int i := by
  rcases h with h | ⟨_, _, e, _⟩ | ⟨_, _, e, _⟩
  · exact Rep.int_iff.mp h
  · cases e
  · cases e
theorem StOk.topBl {K : PySem.W.Frag} {B : Bas} {F H : Hp} {E : EL} {T : TL} {p : Bool} {v : V} (S : StOk K B F H E ((.imm (.bl p), v) :: T)) : v = .bl p := by
  have h : Rep K F (.bl p) v := (S.entT _ List.mem_cons_self).noloc rfl
  exact Rep.bl_iff.mp h
theorem StOk.topInt {K : PySem.W.Frag} {B : Bas} {F H : Hp} {E : EL} {T : TL} {p : Int} {v : V} (S : StOk K B F H E ((.imm (.int p), v) :: T)) : v = .int p := by
  have h : Rep K F (.int p) v := (S.entT _ List.mem_cons_self).noloc rfl
  exact Rep.int_iff.mp h
/-! ### results of another kind -/
/-- a new list is given up -/
theorem EV.fz {ds : List D} (h : EV X es e es1 (.own ds)) : EV X es e es1 (.imm (.lst ds)) := fun B F H E T Q he S k =>
  h B F H E T Q he S fun v F' H' E' x e1 e2 S' => by
    obtain ⟨F2, x2, S2⟩ := S'.freezeT
    exact k v F2 H' E' (x.trans x2) e1 e2 S2
theorem EV.fzD {ds : List (Key × D)} (h : EV X es e es1 (.ownD ds)) : EV X es e es1 (.imm (.dic ds)) := fun B F H E T Q he S k =>
  h B F H E T Q he S fun v F' H' E' x e1 e2 S' => by
    obtain ⟨F2, x2, S2⟩ := S'.freezeTD
    exact k v F2 H' E' (x.trans x2) e1 e2 S2
theorem EV.cast {r' : R} (h : EV X es e es1 r) (q : r = r') : EV X es e es1 r' := q ▸ h

/-! ### names and constants -/
theorem ev_var {i : Nat} {x : Str} {d : D} (he : es[i]? = some (.imm d)) (hN : X.N[i]? = some x) (hv : Vis X.env.scope x) (hd : (x == ("__debug__" : Str)) = false) (hcd : (x == ("__classdict__" : Str)) = false) :
    EV X es (.Name x pos) es (.imm d) := fun B F H E T Q hE S k => by
  obtain ⟨v, hv'⟩ := get_of_map hE he
  rcases S.entE _ (List.mem_of_getElem? hv') with q | ⟨u, q, hu⟩
  · cases q
  · have q : v = some u := q
    subst q
    refine of_pe (pe_var hN hv hd hcd) ⟨u, by rw [List.getElem?_map, hv']; rfl, ?_⟩
    exact k u F H E (Ext.refl F) hE rfl (S.imm hu)
theorem ev_loc {i : Nat} {x : Str} (he : es[i]? = some r) (ho : r.isOwn = true) (hN : X.N[i]? = some x) (hv : Vis X.env.scope x) (hd : (x == ("__debug__" : Str)) = false) (hcd : (x == ("__classdict__" : Str)) = false) :
    EV X es (.Name x pos) es (.loc i) := fun B F H E T Q hE S k => by
  obtain ⟨v, hv'⟩ := get_of_map hE he
  rcases S.entE _ (List.mem_of_getElem? hv') with q | ⟨u, q, hu⟩
  · have q : r = .any := q
    subst q; cases ho
  · have q : v = some u := q
    subst q
    refine of_pe (pe_var hN hv hd hcd) ⟨u, by rw [List.getElem?_map, hv']; rfl, ?_⟩
    exact k u F H E (Ext.refl F) hE rfl (S.locP hv' ho)
theorem ev_int {i : Int} {j : Nat} : EV X es (.Constant (.int i) j pos) es (.imm (.int i)) := fun B F H E T Q hE S k =>
  of_pe pe_int (k _ F H E (Ext.refl F) hE rfl (S.imm (Rep.int_iff.mpr rfl)))
theorem ev_bl {i : Bool} {j : Nat} : EV X es (.Constant (.bool i) j pos) es (.imm (.bl i)) := fun B F H E T Q hE S k =>
  of_pe pe_bl (k _ F H E (Ext.refl F) hE rfl (S.imm (Rep.bl_iff.mpr rfl)))
theorem ev_non {j : Nat} : EV X es (.Constant .none j pos) es (.imm .non) := fun B F H E T Q hE S k =>
  of_pe pe_non (k _ F H E (Ext.refl F) hE rfl (S.imm (Rep.non_iff.mpr rfl)))
theorem ev_str {x : Str} {j : Nat} : EV X es (.Constant (.str x) j pos) es (.imm (.str x)) := fun B F H E T Q hE S k =>
  of_pe pe_str (k _ F H E (Ext.refl F) hE rfl (S.imm (Rep.str_iff.mpr rfl)))

/-! ### operations by values -/
/-- what a two-place operation makes of two temporaries -/
def O2 (X : Cx) (es : List R) (q : R2) (ra rb res : R) : Prop :=
  ∀ (B : Bas) (F H : Hp) (E : EL) (T : TL) (x y : V) (Q : VK), E.map (·.1) = es → StOk X.K B F H E ((rb, y) :: (ra, x) :: T) →
    (∀ v F' H', Ext F F' → StOk X.K B F' H' E ((res, v) :: (rb, y) :: (ra, x) :: T) → Q v H') → q x y H Q
def O1 (X : Cx) (es : List R) (q : V → Hp → VK → Prop) (ra res : R) : Prop :=
  ∀ (B : Bas) (F H : Hp) (E : EL) (T : TL) (x : V) (Q : VK), E.map (·.1) = es → StOk X.K B F H E ((ra, x) :: T) →
    (∀ v F' H', Ext F F' → StOk X.K B F' H' E ((res, v) :: (ra, x) :: T) → Q v H') → q x H Q
/-- what a call makes of its arguments -/
def ON (X : Cx) (es : List R) (q : List V → Hp → VK → Prop) (rs : List R) (res : R) : Prop :=
  ∀ (B : Bas) (F H : Hp) (E : EL) (T : TL) (vs : List V) (Q : VK), E.map (·.1) = es → vs.length = rs.length → StOk X.K B F H E ((rs.zip vs).reverse ++ T) →
    (∀ v F' H', Ext F F' → StOk X.K B F' H' E ((res, v) :: ((rs.zip vs).reverse ++ T)) → Q v H') → q vs H Q
theorem t_op {q : R2} (ha : EV X es a es1 ra) (hb : EV X es1 b es2 rb) (h : O2 X es2 q ra rb r) {B : Bas} {F H : Hp} {E : EL} {T : TL} {Q : VK} (hE : E.map (·.1) = es) (S : StOk X.K B F H E T)
    (k : ∀ v F' H' E', Ext F F' → E'.map (·.1) = es2 → E'.map (·.2) = E.map (·.2) → StOk X.K B F' H' E' ((r, v) :: T) → Q v H') : tOp q (wE X a) (wE X b) (E.map (·.2)) H Q := by
  refine ha B F H E T _ hE S fun x F1 H1 E1 x1 e1 f1 S1 => ?_
  have := hb B F1 H1 E1 _ (fun y H2 => q x y H2 Q) e1 S1 fun y F2 H2 E2 x2 e2 f2 S2 => ?_
  · rw [f1] at this; exact this
  · exact h B F2 H2 E2 T x y Q e2 S2 fun v F3 H3 x3 S3 => k v F3 H3 E2 (x1.trans (x2.trans x3)) e2 (f2.trans f1) S3.pop3
theorem ev_op {op : Operator} {q : R2} (ho : OpR X (binaryOp op) q) (h : O2 X es2 q ra rb r) (ha : EV X es a es1 ra) (hb : EV X es1 b es2 rb) : EV X es (.BinOp a op b pos) es2 r :=
  fun B F H E T Q hE S k => of_pe (pe_op ho pe_w pe_w) (t_op ha hb h hE S k)
theorem ev_cmp {op : CmpOp} {q : R2} (ho : OpR X (compareOp op) q) (h : O2 X es2 q ra rb r) (ha : EV X es a es1 ra) (hb : EV X es1 b es2 rb) (hm : behindInMarks op b = false) : EV X es (.Compare a [op] [b] pos) es2 r :=
  fun B F H E T Q hE S k => of_pe (pe_cmpR ho pe_w pe_w hm) (t_op ha hb h hE S k)
theorem tv_cmp {op : CmpOp} {q : R2} {p : Bool} (ho : OpR X (compareOp op) q) (h : O2 X es2 q ra rb (.imm (.bl p))) (ha : EV X es a es1 ra) (hb : EV X es1 b es2 rb) (hm : behindInMarks op b = false) : TV X es (.Compare a [op] [b] pos) es2 p :=
  fun B F H E T Q hE S k => of_pt (pt_cmpR ho pe_w pe_w hm) (t_op ha hb h hE S fun v F' H' E' x e1 e2 S' => by
    exact ⟨p, S'.topBl, k F' H' E' x e1 e2 S'.pop⟩)
theorem ev_ix {q : R2} (ho : IxR X q) (h : O2 X es2 q ra rb r) (ha : EV X es a es1 ra) (hb : EV X es1 b es2 rb) (hp : PlainIx b) : EV X es (.Subscript a b pos) es2 r :=
  fun B F H E T Q hE S k => of_pe (pe_ix ho pe_w pe_w hp) (t_op ha hb h hE S k)
theorem ev_un {op : UnaryOp} {q : V → Hp → VK → Prop} (ho : UnR X (unaryOp op) q) (h : O1 X es1 q ra r) (ha : EV X es a es1 ra) : EV X es (.UnaryOp op a pos) es1 r :=
  fun B F H E T Q hE S k => of_pe (pe_un ho pe_w) (ha B F H E T _ hE S fun x F1 H1 E1 x1 e1 f1 S1 => h B F1 H1 E1 T x Q e1 S1 fun v F3 H3 x3 S3 => k v F3 H3 E1 (x1.trans x3) e1 f1 S3.pop2)
/-! a op1 b op2 c -/
theorem tv_chain {op op' : CmpOp} {q q' : R2} {rc : R} {p p' : Bool} (ho : OpR X (compareOp op) q) (ho' : OpR X (compareOp op') q') (ha : EV X es a es1 ra) (hb : EV X es1 b es2 rb) (h : O2 X es2 q ra rb (.imm (.bl p)))
    (hc : p = true → EV X es2 c es2 rc) (h' : p = true → O2 X es2 q' rb rc (.imm (.bl p'))) (hl : lastMarks [op, op'] [b, c] = false) : TV X es (.Compare a [op, op'] [b, c] pos) es2 (p && p') :=
  fun B F H E T Q hE S k => of_pt (pt_chain ho ho' pe_w pe_w pe_w hl) (by
    show tChain q q' (wE X a) (wE X b) (wE X c) _ _ _
    refine ha B F H E T _ hE S fun x F1 H1 E1 x1 e1 f1 S1 => ?_
    have := hb B F1 H1 E1 _ (fun y H2 => q x y H2 fun z H3 => ∃ k', z = .bl k' ∧ if k' = true then wE X c (E.map (·.2)) H3 fun w H4 => q' y w H4 (fun x H' => ∃ k, x = V.bl k ∧ Q k H') else (∃ k, (V.bl false) = V.bl k ∧ Q k H3)) e1 S1 fun y F2 H2 E2 x2 e2 f2 S2 => ?_
    · rw [f1] at this; exact this
    · refine h B F2 H2 E2 T x y _ e2 S2 fun v F3 H3 x3 S3 => ?_
      refine ⟨p, S3.topBl, ?_⟩
      cases hp : p with
      | true =>
        rw [if_pos rfl]
        have := hc hp B F3 H3 E2 _ (fun w H4 => q' y w H4 (fun x H' => ∃ k, x = V.bl k ∧ Q k H')) e2 S3.pop fun w F4 H4 E4 x4 e4 f4 S4 => ?_
        · rw [f2, f1] at this; exact this
        · have S5 : StOk X.K B F4 H4 E4 ((rc, w) :: (rb, y) :: T) := S4.sub (.cons_cons _ (.cons_cons _ (List.sublist_cons_self _ _)))
          refine h' hp B F4 H4 E4 _ y w _ e4 S5 fun v F6 H6 x6 S6 => ?_
          refine ⟨p', S6.topBl, ?_⟩
          have := k F6 H6 E4 (x1.trans (x2.trans (x3.trans (x4.trans x6)))) e4 (f4.trans (f2.trans f1)) S6.pop.pop.pop
          rw [hp] at this
          exact this
      | false =>
        rw [if_neg Bool.false_ne_true]
        refine ⟨false, rfl, ?_⟩
        have := k F3 H3 E2 (x1.trans (x2.trans x3)) e2 (f2.trans f1) S3.pop.pop.pop
        rw [hp] at this
        exact this)

/-! ### tests -/
theorem tv_val {p : Bool} (h : EV X es e es1 (.imm (.bl p))) (he : ∀ whole, isTrue e X.env whole = (do let v ← whole; standAt e.pos; holding [v] (truthy v))) : TV X es e es1 p :=
  fun B F H E T Q hE S k => of_pt (pt_val pe_w he) (h B F H E T _ hE S fun v F' H' E' x e1 e2 S' =>
    ⟨p, S'.topBl, k F' H' E' x e1 e2 S'.pop⟩)
theorem wv_and1 {p : Bool} (h : TV X es a es1 p) : WV X es (.BoolOp .And [a] pos) es1 p := fun B F H E T Q hE S k => of_pw (pw_and1 pt_w) (h B F H E T Q hE S k)
theorem wv_or1 {p : Bool} (h : TV X es a es1 p) : WV X es (.BoolOp .Or [a] pos) es1 p := fun B F H E T Q hE S k => of_pw (pw_or1 pt_w) (h B F H E T Q hE S k)
theorem wv_and {rest : List Expr} {p q : Bool} (h : TV X es a es1 p) (h2 : p = true → WV X es1 (.BoolOp .And (b :: rest) pos) es2 q) : WV X es (.BoolOp .And (a :: b :: rest) pos) (if p = true then es2 else es1) (p && q) :=
  fun B F H E T Q hE S k => of_pw (pw_and pt_w pw_w) (h B F H E T _ hE S fun F1 H1 E1 x1 e1 f1 S1 => by
    cases hp : p with
    | true =>
      rw [if_pos rfl]
      rw [hp] at k
      have := h2 hp B F1 H1 E1 T Q e1 S1 fun F2 H2 E2 x2 e2 f2 S2 => k F2 H2 E2 (x1.trans x2) (by rw [if_pos rfl]; exact e2) (f2.trans f1) S2
      rw [f1] at this; exact this
    | false =>
      rw [if_neg Bool.false_ne_true]
      rw [hp] at k
      exact k F1 H1 E1 x1 (by rw [if_neg Bool.false_ne_true]; exact e1) f1 S1)
theorem wv_or {rest : List Expr} {p q : Bool} (h : TV X es a es1 p) (h2 : p = false → WV X es1 (.BoolOp .Or (b :: rest) pos) es2 q) : WV X es (.BoolOp .Or (a :: b :: rest) pos) (if p = true then es1 else es2) (p || q) :=
  fun B F H E T Q hE S k => of_pw (pw_or pt_w pw_w) (h B F H E T _ hE S fun F1 H1 E1 x1 e1 f1 S1 => by
    cases hp : p with
    | false =>
      rw [if_neg Bool.false_ne_true]
      rw [hp] at k
      have := h2 hp B F1 H1 E1 T Q e1 S1 fun F2 H2 E2 x2 e2 f2 S2 => k F2 H2 E2 (x1.trans x2) (by rw [if_neg Bool.false_ne_true]; exact e2) (f2.trans f1) S2
      rw [f1] at this; exact this
    | true =>
      rw [if_pos rfl]
      rw [hp] at k
      exact k F1 H1 E1 x1 (by rw [if_pos rfl]; exact e1) f1 S1)
theorem WV.tv {p : Bool} (h : WV X es e es1 p) : TV X es e es1 p := fun B F H E T Q hE S k => of_pt (PW.pt pw_w) (h B F H E T Q hE S k)
theorem WV.same {p : Bool} {c : Prop} [Decidable c] (h : WV X es e (if c then es1 else es1) p) : WV X es e es1 p := by
  rw [ite_self] at h; exact h
theorem TV.cast {p q : Bool} (h : TV X es e es1 p) (e0 : p = q) : TV X es e es1 q := e0 ▸ h
theorem tv_not {p : Bool} (h : TV X es a es1 p) : TV X es (.UnaryOp .Not a pos) es1 (!p) := fun B F H E T Q hE S k => of_pt (pt_not pt_w) (h B F H E T _ hE S k)
/-- .. as values -/
theorem ev_one {op : BoolOp} (h : EV X es a es1 r) : EV X es (.BoolOp op [a] pos) es1 r := fun B F H E T Q hE S k => of_pe (pe_one pe_w) (h B F H E T Q hE S k)
theorem ev_and {rest : List Expr} {p q : Bool} (h : EV X es a es1 (.imm (.bl p))) (h2 : p = true → EV X es1 (.BoolOp .And (b :: rest) pos) es2 (.imm (.bl q))) :
    EV X es (.BoolOp .And (a :: b :: rest) pos) (if p = true then es2 else es1) (.imm (.bl (p && q))) := fun B F H E T Q hE S k =>
  of_pe (pe_and pe_w pe_w) (h B F H E T _ hE S fun v F1 H1 E1 x1 e1 f1 S1 => by
    refine ⟨p, S1.topBl, ?_⟩
    cases hp : p with
    | true =>
      rw [if_pos rfl]
      rw [hp] at k
      have := h2 hp B F1 H1 E1 T Q e1 S1.pop fun v F2 H2 E2 x2 e2 f2 S2 => k v F2 H2 E2 (x1.trans x2) (by rw [if_pos rfl]; exact e2) (f2.trans f1) S2
      rw [f1] at this; exact this
    | false =>
      rw [if_neg Bool.false_ne_true]
      rw [hp] at k
      exact k _ F1 H1 E1 x1 (by rw [if_neg Bool.false_ne_true]; exact e1) f1 (S1.pop.imm (Rep.bl_iff.mpr rfl)))
theorem ev_or {rest : List Expr} {p q : Bool} (h : EV X es a es1 (.imm (.bl p))) (h2 : p = false → EV X es1 (.BoolOp .Or (b :: rest) pos) es2 (.imm (.bl q))) :
    EV X es (.BoolOp .Or (a :: b :: rest) pos) (if p = true then es1 else es2) (.imm (.bl (p || q))) := fun B F H E T Q hE S k =>
  of_pe (pe_or pe_w pe_w) (h B F H E T _ hE S fun v F1 H1 E1 x1 e1 f1 S1 => by
    refine ⟨p, S1.topBl, ?_⟩
    cases hp : p with
    | false =>
      rw [if_neg Bool.false_ne_true]
      rw [hp] at k
      have := h2 hp B F1 H1 E1 T Q e1 S1.pop fun v F2 H2 E2 x2 e2 f2 S2 => k v F2 H2 E2 (x1.trans x2) (by rw [if_neg Bool.false_ne_true]; exact e2) (f2.trans f1) S2
      rw [f1] at this; exact this
    | true =>
      rw [if_pos rfl]
      rw [hp] at k
      exact k _ F1 H1 E1 x1 (by rw [if_pos rfl]; exact e1) f1 (S1.pop.imm (Rep.bl_iff.mpr rfl)))
theorem EV.same {c : Prop} [Decidable c] (h : EV X es e (if c then es1 else es1) r) : EV X es e es1 r := by
  rw [ite_self] at h; exact h
theorem ev_not {p : Bool} (h : EV X es a es1 (.imm (.bl p))) : EV X es (.UnaryOp .Not a pos) es1 (.imm (.bl (!p))) := fun B F H E T Q hE S k =>
  of_pe (pe_not pe_w) (h B F H E T _ hE S fun v F1 H1 E1 x1 e1 f1 S1 =>
    ⟨p, S1.topBl, k _ F1 H1 E1 x1 e1 f1 (S1.pop.imm (Rep.bl_iff.mpr rfl))⟩)
theorem ev_if {p : Bool} (hc : TV X es c es1 p) (ha : p = true → EV X es1 a es2 r) (hb : p = false → EV X es1 b es2 r) : EV X es (.IfExp c a b pos) es2 r := fun B F H E T Q hE S k =>
  of_pe (pe_ifExp pt_w pe_w pe_w) (hc B F H E T _ hE S fun F1 H1 E1 x1 e1 f1 S1 => by
    cases hp : p with
    | true =>
      rw [if_pos rfl]
      have := ha hp B F1 H1 E1 T Q e1 S1 fun v F2 H2 E2 x2 e2 f2 S2 => k v F2 H2 E2 (x1.trans x2) e2 (f2.trans f1) S2
      rw [f1] at this; exact this
    | false =>
      rw [if_neg Bool.false_ne_true]
      have := hb hp B F1 H1 E1 T Q e1 S1 fun v F2 H2 E2 x2 e2 f2 S2 => k v F2 H2 E2 (x1.trans x2) e2 (f2.trans f1) S2
      rw [f1] at this; exact this)

/-! ### arguments, displays -/
theorem av_nil : AV X es [] es [] := fun B F H E T Q hE S k => of_pa pa_nil (k [] F H E (Ext.refl F) hE rfl rfl S)
theorem av_cons {as : List Expr} {rs : List R} (h : EV X es a es1 r) (h2 : AV X es1 as es2 rs) (hs : starEach (a :: as) X.env = (false, eval a X.env) :: starEach as X.env) : AV X es (a :: as) es2 (r :: rs) := fun B F H E T Q hE S k =>
  of_pa (pa_cons pe_w pa_w hs) (h B F H E T _ hE S fun v F1 H1 E1 x1 e1 f1 S1 => by
    have := h2 B F1 H1 E1 _ (fun xs H2 => Q (v :: xs) H2) e1 S1 fun vs F2 H2 E2 x2 e2 f2 hl S2 => k (v :: vs) F2 H2 E2 (x1.trans x2) e2 (f2.trans f1) (by simp [hl]) (by
      rw [List.zip_cons_cons, List.reverse_cons, List.append_assoc]; exact S2)
    rw [f1] at this; exact this)
/-- parts that never change -/
def immD : R → Option D
  | .imm d => some d
  | _ => none
theorem reps_of {K : PySem.W.Frag} {B : Bas} {F H : Hp} {E : EL} : ∀ {rs : List R} {ds : List D} {vs : List V} {T : TL}, rs.map immD = ds.map some → vs.length = rs.length → StOk K B F H E ((rs.zip vs).reverse ++ T) → Reps K F ds vs
  | [], ds, vs, T, h, hl, S => by
    cases ds with
    | nil => cases vs with
      | nil => exact Reps.nil
      | cons _ _ => simp at hl
    | cons _ _ => simp at h
  | r :: rs, ds, vs, T, h, hl, S => by
    cases ds with
    | nil => simp at h
    | cons d ds =>
      cases vs with
      | nil => simp at hl
      | cons v vs =>
        rw [List.map_cons, List.map_cons] at h
        injection h with h1 h2
        rw [List.zip_cons_cons, List.reverse_cons, List.append_assoc] at S
        have hr : r = .imm d := by
          cases r <;> simp [immD] at h1
          rw [h1]
        subst hr
        refine Reps.cons ((S.entT (.imm d, v) (by simp)).noloc rfl) (reps_of (T := [(.imm d, v)] ++ T) h2 (by simpa using hl) S)
theorem StOk.drop {K : PySem.W.Frag} {B : Bas} {F H : Hp} {E : EL} {T T1 : TL} (S : StOk K B F H E (T1 ++ T)) : StOk K B F H E T := S.sub (List.sublist_append_right _ _)
theorem StOk.drop1 {K : PySem.W.Frag} {B : Bas} {F H : Hp} {E : EL} {T T1 : TL} {x : R × V} (S : StOk K B F H E (x :: (T1 ++ T))) : StOk K B F H E (x :: T) := S.sub (.cons_cons _ (List.sublist_append_right _ _))
theorem ev_tup {as : List Expr} {rs : List R} {ds : List D} {j} (h : AV X es as es1 rs) (hd : rs.map immD = ds.map some) (hz : ds.length ≤ 1000) : EV X es (.Tuple as j pos) es1 (.imm (.tup ds)) := fun B F H E T Q hE S k =>
  of_pe (pe_tup pa_w) (h B F H E T _ hE S fun vs F1 H1 E1 x1 e1 f1 hl S1 => by
    have hr := reps_of hd hl S1
    refine ⟨by rw [← hr.len]; exact Nat.le_trans hz (by decide), fun p hp => ?_⟩
    have S2 := S1.newT hp hr
    exact k _ _ _ E1 (x1.trans (Ext.new (S1.free hp).1)) e1 f1 S2.drop1)
theorem ev_lst {as : List Expr} {rs : List R} {ds : List D} (h : AV X es as es1 rs) (hd : rs.map immD = ds.map some) (hz : ds.length ≤ 1000) : EV X es (.List as pos) es1 (.own ds) := fun B F H E T Q hE S k =>
  of_pe (pe_lst pa_w) (h B F H E T _ hE S fun vs F1 H1 E1 x1 e1 f1 hl S1 => by
    have hr := reps_of hd hl S1
    refine ⟨by rw [← hr.len]; exact Nat.le_trans hz (by decide), fun p hp => ?_⟩
    exact k _ _ _ E1 x1 e1 f1 (S1.newL hp hr).drop1)
/-! ### calls of built-ins -/
theorem ev_callB {x : Str} {p : Pos} {as : List Expr} {rs : List R} {id : String} {q : List V → Hp → VK → Prop} (hc : CallR X (.builtin id) q) (h : ON X es1 q rs r) (ha : AV X es (a :: as) es1 rs) (hg : Gl X x) (hm : X.mg x = none) (hv : bootBuiltins x = some (.builtin id))
    (hn : x ≠ "__name__") (hdb : (x == ("__debug__" : Str)) = false) (he : starEach (a :: as) X.env = (false, eval a X.env) :: starEach as X.env) (hpl : (backTo pos (starEach as X.env)).any (·.1) = false) :
    EV X es (.Call (.Name x p) (a :: as) [] pos) es1 r := fun B F H E T Q hE S k =>
  of_pe (pe_callB hc hg hm hv pa_w hn hdb he hpl) (ha B F H E T _ hE S fun vs F1 H1 E1 x1 e1 f1 hl S1 =>
    h B F1 H1 E1 T vs Q e1 hl S1 fun v F2 H2 x2 S2 => k v F2 H2 E1 (x1.trans x2) e1 f1 S2.drop1)
theorem ev_callTy {x : Str} {p : Pos} {as : List Expr} {rs : List R} {id : String} {q : List V → Hp → VK → Prop} (hc : CallR X (.type id) q) (h : ON X es1 q rs r) (ha : AV X es (a :: as) es1 rs) (hg : Gl X x) (hm : X.mg x = none) (hv : bootBuiltins x = some (.type id))
    (hn : x ≠ "__name__") (hdb : (x == ("__debug__" : Str)) = false) (he : starEach (a :: as) X.env = (false, eval a X.env) :: starEach as X.env) (hpl : (backTo pos (starEach as X.env)).any (·.1) = false) :
    EV X es (.Call (.Name x p) (a :: as) [] pos) es1 r := fun B F H E T Q hE S k =>
  of_pe (pe_callTy hc hg hm hv pa_w hn hdb he hpl) (ha B F H E T _ hE S fun vs F1 H1 E1 x1 e1 f1 hl S1 =>
    h B F1 H1 E1 T vs Q e1 hl S1 fun v F2 H2 x2 S2 => k v F2 H2 E1 (x1.trans x2) e1 f1 S2.drop1)
/-- o.m(args), m a built-in's method that reads -/
theorem ev_bm {o : Expr} {as : List Expr} {rs : List R} {name : Str} {apos : Pos} {Tn id : String} {q : V → List V → Hp → VK → Prop} (pa : PlainAttrs Tn) (slot : Slot Tn name id) (hty : typeOf (.builtin id) = pure (.type "method_descriptor")) (hm : MtR X id q)
    (ho : EV X es o es1 ra) (ha : AV X es1 (a :: as) es2 rs) (hT : ∀ (B : Bas) (F H : Hp) (E : EL) (T : TL) (v : V), E.map (·.1) = es1 → StOk X.K B F H E ((ra, v) :: T) → tyV X.K Tn v H)
    (h : ON X es2 (fun vs H Q => ∃ v r, vs = v :: r ∧ q v r H Q) (ra :: rs) r)
    (hbase : attributeBase o name X.env (eval o X.env) = eval o X.env)
    (hplain : ((((backTo pos (starEach (a :: as) X.env)).all fun x => !x.1) && (backToKw pos (keywordEach [] X.env)).all fun x => x.1.isSome) && decide (((a :: as).length + ([] : List Keyword).length + if ([] : List Keyword).isEmpty = true then 0 else 1) < 30)) = true)
    (hline : (apos.endLine == pos.line) = true) (hst : starEach (a :: as) X.env = (false, eval a X.env) :: starEach as X.env) (hpl : (backTo pos (starEach as X.env)).any (·.1) = false) :
    EV X es (.Call (.Attribute o name apos) (a :: as) [] pos) es2 r := fun B F H E T Q hE S k =>
  of_pe (pe_bm pa slot hty hm pe_w pa_w hbase hplain hline hst hpl) (ho B F H E T _ hE S fun v F1 H1 E1 x1 e1 f1 S1 => ⟨hT B F1 H1 E1 T v e1 S1, by
    have := ha B F1 H1 E1 _ (fun xs H2 => q v xs H2 Q) e1 S1 fun vs F2 H2 E2 x2 e2 f2 hl S2 => by
      have S3 : StOk X.K B F2 H2 E2 (((ra :: rs).zip (v :: vs)).reverse ++ T) := by
        rw [List.zip_cons_cons, List.reverse_cons, List.append_assoc]; exact S2
      have := h B F2 H2 E2 T (v :: vs) Q e2 (by simp [hl]) S3 fun w F4 H4 x4 S4 => k w F4 H4 E2 (x1.trans (x2.trans x4)) e2 (f2.trans f1) S4.drop1
      obtain ⟨v', r', e', q'⟩ := this
      cases e'
      exact q'
    rw [f1] at this; exact this⟩)
end
end DL

set_option maxRecDepth 100000
set_option maxHeartbeats 1000000
/-! The data layer: statements, loops, comprehensions. -/
namespace DL
open PySem L2
open PyProof.Rows hiding St

def S1 (X : Cx) (es : List R) (st : Stmt) (P : Post) : Prop :=
  ∀ (B : Bas) (F H : Hp) (E : EL) (T : TL) (D : Ends), E.map (·.1) = es → NoLoc T → StOk X.K B F H E T → Sat X.K B F T P D → wS X st D (E.map (·.2)) H
section
variable {X : Cx} {es es1 es2 es3 : List R} {e a b c : Expr} {r ra rb : R} {pos : Pos} {st : Stmt} {rest : List Stmt} {P : Post}
theorem sv_nil (h : P.nx es) : SV X es [] P := fun B F H E T D hE hT S A => of_pss pss_nil (A.nx F H E (Ext.refl F) S (by rw [hE]; exact h))
theorem sv_cons (h : S1 X es st { P with nx := fun e => SV X e rest P }) : SV X es (st :: rest) P := fun B F H E T D hE hT S A =>
  of_pss (pss_cons ps_w pss_w) (h B F H E T _ hE hT S ⟨fun F' H' E' x S' q => q B F' H' E' T D rfl hT S' (A.mono x), A.rt, A.bk, A.ct⟩)
/-- what is not needed is forgotten -/
def Wk (es es' : List R) : Prop := es.length = es'.length ∧ ∀ i : Nat, es'[i]? = es[i]? ∨ es'[i]? = some R.any
theorem wk_sub : ∀ {E : EL} {es' : List R}, E.length = es'.length → (∀ i : Nat, es'[i]? = (E.map (·.1))[i]? ∨ es'[i]? = some R.any) → ((es'.zip (E.map (·.2))).flatMap ownE).Sublist (E.flatMap ownE)
  | [], es', _, _ => by simp
  | x :: E, [], hl, _ => by simp at hl
  | x :: E, r :: es', hl, hw => by
    have h0 := hw 0
    have ih := wk_sub (E := E) (es' := es') (by simpa using hl) fun i => by simpa using hw (i + 1)
    simp only [List.map_cons, List.zip_cons_cons, List.flatMap_cons]
    rcases h0 with q | q
    · have q : r = x.1 := by simpa using q
      rw [q]
      exact (List.Sublist.refl _).append ih
    · have q : r = .any := by simpa using q
      rw [q]
      have : ownE (R.any, x.2) = [] := by cases x.2 <;> rfl
      rw [this]
      exact ih.trans (List.sublist_append_right _ _)
theorem StOk.weak {K : PySem.W.Frag} {B : Bas} {F H : Hp} {T : TL} : ∀ {E : EL} {es' : List R}, StOk K B F H E T → NoLoc T → Wk (E.map (·.1)) es' → ∃ E' : EL, E'.map (·.1) = es' ∧ E'.map (·.2) = E.map (·.2) ∧ StOk K B F H E' T := by
  intro E es' S hT hw
  obtain ⟨hl, hw⟩ := hw
  have hl : E.length = es'.length := by simpa using hl
  refine ⟨es'.zip (E.map (·.2)), ?_, ?_, ?_⟩
  · rw [List.map_fst_zip]; simp [hl]
  · rw [List.map_snd_zip]; simp [hl]
  · have key : ∀ (i : Nat) (x : R × Option V), (es'.zip (E.map (·.2)))[i]? = some x → x ∈ E ∨ x.1 = .any := by
      intro i x hx
      rw [List.getElem?_zip_eq_some] at hx
      obtain ⟨h1, h2⟩ := hx
      rcases hw i with q | q
      · rw [h1, List.getElem?_map] at q
        rw [List.getElem?_map] at h2
        cases e : E[i]? with
        | none => rw [e] at q; cases q
        | some y =>
          rw [e] at q h2
          have q := Option.some.inj q
          have h2 := Option.some.inj h2
          left
          have : x = y := by
            obtain ⟨x1, x2⟩ := x; obtain ⟨y1, y2⟩ := y
            simp at q h2; simp [q, h2]
          rw [this]
          exact List.mem_of_getElem? e
      · rw [h1] at q
        exact .inr (Option.some.inj q)
    refine ⟨S.le, S.sup, S.new, S.keep, S.mus, S.lkd, fun x hx => ?_, fun x hx => .inl ((S.entT x hx).noloc (hT x hx)), ?_⟩
    · obtain ⟨i, hi⟩ := List.mem_iff_getElem?.mp hx
      rcases key i x hi with q | q
      · exact S.entE x q
      · exact .inl q
    · refine S.dis.sublist (List.Sublist.append ?_ (List.Sublist.refl _))
      exact wk_sub hl hw
theorem sv_wk {sts : List Stmt} (h : SV X es2 sts P) (hw : Wk es es2) : SV X es sts P := fun B F H E T D hE hT S A => by
  obtain ⟨E', e1, e2, S'⟩ := S.weak hT (by rw [hE]; exact hw)
  have := h B F H E' T D e1 hT S' A
  rw [e2] at this; exact this
theorem Wk.refl (es : List R) : Wk es es := ⟨rfl, fun _ => .inl rfl⟩
theorem Wk.nil : Wk [] [] := Wk.refl []
theorem Wk.same {x : R} {l l' : List R} (h : Wk l l') : Wk (x :: l) (x :: l') := ⟨by simp [h.1], fun i => by
  cases i with
  | zero => exact .inl rfl
  | succ n => simpa using h.2 n⟩
theorem Wk.drop {x : R} {l l' : List R} (h : Wk l l') : Wk (x :: l) (.any :: l') := ⟨by simp [h.1], fun i => by
  cases i with
  | zero => exact .inr rfl
  | succ n => simpa using h.2 n⟩
/-- slot j is given up -/
theorem sv_fz {sts : List Stmt} {j : Nat} {ds : List D} (hj : es[j]? = some (.own ds)) (h : SV X (es.set j (.imm (.lst ds))) sts P) : SV X es sts P := fun B F H E T D hE hT S A => by
  obtain ⟨v, hv⟩ := get_of_map hE hj
  obtain ⟨F', x, S'⟩ := S.freezeS hT hv
  have := h B F' H _ T D (by rw [List.map_set, hE]) hT S' (A.mono x)
  rw [List.map_set] at this
  have e2 : (E.map (·.2)).set j v = E.map (·.2) := by
    apply List.ext_getElem?
    intro i
    by_cases e : j = i
    · subst e
      rw [List.getElem?_set_self (by simpa using (List.getElem?_eq_some_iff.mp hv).1), List.getElem?_map, hv]; rfl
    · rw [List.getElem?_set_ne e]
  rw [e2] at this; exact this
theorem sv_fzD {sts : List Stmt} {j : Nat} {ds : List (Key × D)} (hj : es[j]? = some (.ownD ds)) (h : SV X (es.set j (.imm (.dic ds))) sts P) : SV X es sts P := fun B F H E T D hE hT S A => by
  obtain ⟨v, hv⟩ := get_of_map hE hj
  obtain ⟨F', x, S'⟩ := S.freezeSD hT hv
  have := h B F' H _ T D (by rw [List.map_set, hE]) hT S' (A.mono x)
  rw [List.map_set] at this
  have e2 : (E.map (·.2)).set j v = E.map (·.2) := by
    apply List.ext_getElem?
    intro i
    by_cases e : j = i
    · subst e
      rw [List.getElem?_set_self (by simpa using (List.getElem?_eq_some_iff.mp hv).1), List.getElem?_map, hv]; rfl
    · rw [List.getElem?_set_ne e]
  rw [e2] at this; exact this

/-! ### small statements -/
theorem s_pass (h : P.nx es) : S1 X es (.Pass pos) P := fun B F H E T D hE hT S A => of_ps ps_pass (A.nx F H E (Ext.refl F) S (by rw [hE]; exact h))
theorem s_break (h : P.bk es) : S1 X es (.Break pos) P := fun B F H E T D hE hT S A => of_ps ps_break (A.bk F H E (Ext.refl F) S (by rw [hE]; exact h))
theorem s_cont (h : P.ct es) : S1 X es (.Continue pos) P := fun B F H E T D hE hT S A => of_ps ps_continue (A.ct F H E (Ext.refl F) S (by rw [hE]; exact h))
theorem s_expr (h : EV X es e es1 r) (hs : swapsWith e none pos.line X.env = pure false) (k : P.nx es1) : S1 X es (.Expr e pos) P := fun B F H E T D hE hT S A =>
  of_ps (ps_expr pe_w hs) (h B F H E T _ hE S fun v F' H' E' x e1 e2 S' => by rw [← e2]; exact A.nx F' H' E' x S'.pop (by rw [e1]; exact k))
theorem s_ret (h : EV X es e es1 r) (hr : r.noLoc = true) (k : P.rt es1 r) : S1 X es (.Return (some e) pos) P := fun B F H E T D hE hT S A =>
  of_ps (ps_ret pe_w) (h B F H E T _ hE S fun v F' H' E' x e1 e2 S' => A.rt v r F' H' E' x S' (by rw [e1]; exact k))
theorem s_retL {j : Nat} (h : EV X es e es1 (.loc j)) (hj : es1[j]? = some r) (k : P.rt (es1.set j .any) r) : S1 X es (.Return (some e) pos) P := fun B F H E T D hE hT S A =>
  of_ps (ps_ret pe_w) (h B F H E T _ hE S fun v F' H' E' x e1 e2 S' => A.rt v r F' H' _ x (S'.move (by rw [e1]; exact hj) hT) (by rw [List.map_set, e1]; exact k))
theorem s_retN (k : P.rt es (.imm .non)) : S1 X es (.Return none pos) P := fun B F H E T D hE hT S A =>
  of_ps ps_retN (A.rt .non _ F H E (Ext.refl F) (S.imm (Rep.non_iff.mpr rfl)) (by rw [hE]; exact k))
theorem s_if {p : Bool} {sa sb : List Stmt} (hc : TV X es c es1 p) (ha : p = true → SV X es1 sa P) (hb : p = false → SV X es1 sb P) : S1 X es (.If c sa sb pos) P := fun B F H E T D hE hT S A =>
  of_ps (ps_if pt_w pss_w pss_w) (hc B F H E T _ hE S fun F' H' E' x e1 e2 S' => by
    cases hp : p with
    | true =>
      rw [if_pos rfl, ← e2]
      exact ha hp B F' H' E' T D e1 hT S' (A.mono x)
    | false =>
      rw [if_neg Bool.false_ne_true, ← e2]
      exact hb hp B F' H' E' T D e1 hT S' (A.mono x))
theorem s_set {i : Nat} {x : Str} {pos' : Pos} (h : EV X es e es1 r) (hr : r.noLoc = true) (k : P.nx (es1.set i r)) (hN : X.N.Nodup) (hi : X.N[i]? = some x) (hx : Loc X.env.scope x)
    (hs : swapsWith e (some (.Name x pos')) pos.line X.env = pure false) (hf : X.fn x = true ∨ X.env.scope.names.lookup x = some .local) : S1 X es (.Assign [.Name x pos'] e pos) P := fun B F H E T D hE hT S A =>
  of_ps (ps_set hN hi hx pe_w hs hf) (h B F H E T _ hE S fun v F' H' E' xx e1 e2 S' => by
    have := A.nx F' H' _ xx (S'.setS hr hT (i := i)) (by rw [List.map_set, e1]; exact k)
    rw [List.map_set, e2] at this
    exact this)
/-- name op= e -/
theorem s_aug {i : Nat} {x : Str} {pos' : Pos} {op : Operator} {ti : TIp} {d : D} (hd : es[i]? = some (.imm d)) (h : EV X es e es1 rb) (ho : PIp X op ti) (h2 : O2 X es1 ti (.imm d) rb r) (hr : r.noLoc = true) (k : P.nx (es1.set i r)) (hN : X.N.Nodup) (hi : X.N[i]? = some x) (hx : Loc X.env.scope x)
    (hf : X.fn x = true ∨ X.env.scope.names.lookup x = some .local) : S1 X es (.AugAssign (.Name x pos') op e pos) P := fun B F H E T D hE hT S A => by
  obtain ⟨v, hv'⟩ := get_of_map hE hd
  rcases S.entE _ (List.mem_of_getElem? hv') with q | ⟨u, q, hu⟩
  · cases q
  · have q : v = some u := q
    subst q
    refine of_ps (ps_aug hN hi hx pe_w ho hf) ⟨u, by rw [List.getElem?_map, hv']; rfl, ?_⟩
    refine h B F H E _ _ hE (S.imm (d := d) hu) fun w F' H' E' xx e1 e2 S' => ?_
    refine h2 B F' H' E' T u w _ e1 S' fun z F2 H2 x2 S2 => ?_
    have := A.nx F2 H2 _ (xx.trans x2) (S2.pop3.setS hr hT (i := i)) (by rw [List.map_set, e1]; exact k)
    rw [List.map_set, e2] at this
    exact this

/-! ### targets -/
def wG (X : Cx) (tg : Expr) : TG := fun v σ H Q => ∀ pins s u, Inv X pins σ H s → RelV v u → wpAny (model X.prog X.w) X.A (assign tg X.env u) (fun _ s' => ∃ σ' H', Inv X pins σ' H' s' ∧ Q σ' H') X.xe s
def wGs (X : Cx) (tgs : List Expr) : TGs := fun vs σ H Q => ∀ pins s us, Inv X pins σ H s → Vals vs us → wpAny (model X.prog X.w) X.A (assignInOrder ((assignEach tgs X.env).map (·.2)) us) (fun _ s' => ∃ σ' H', Inv X pins σ' H' s' ∧ Q σ' H') X.xe s
theorem pg_w {tg : Expr} : PG X tg (wG X tg) := ⟨fun pins s σ H v u Q I r h => h pins s u I r⟩
theorem pgs_w {tg : List Expr} : PGs X tg (wGs X tg) := ⟨fun pins s σ H v u Q I r h => h pins s u I r⟩
theorem of_pg {tg : Expr} {t : TG} (h : PG X tg t) {v : V} {σ : St} {H : Hp} {Q : St → Hp → Prop} (q : t v σ H Q) : wG X tg v σ H Q := fun pins s u I r => h.run pins s σ H v u Q I r q
theorem of_pgs {tg : List Expr} {t : TGs} (h : PGs X tg t) {v : List V} {σ : St} {H : Hp} {Q : St → Hp → Prop} (q : t v σ H Q) : wGs X tg v σ H Q := fun pins s u I r => h.run pins s σ H v u Q I r q
/-- a target takes d: the slots is are stored -/
def GV (X : Cx) (es : List R) (tg : Expr) (d : D) (es' : List R) (is : List Nat) : Prop :=
  ∀ (B : Bas) (F H : Hp) (E : EL) (T : TL) (v : V) (Q : St → Hp → Prop), E.map (·.1) = es → (∀ i ∈ is, ∀ x ∈ T, x.1 ≠ .loc i) → StOk X.K B F H E ((.imm d, v) :: T) →
    (∀ E', E'.map (·.1) = es' → (∀ vs : List Nat, (∀ i ∈ is, i ∈ vs) → wipe (E'.map (·.2)) vs = wipe (E.map (·.2)) vs) → StOk X.K B F H E' T → Q (E'.map (·.2)) H) → wG X tg v (E.map (·.2)) H Q
def GVs (X : Cx) (es : List R) (tgs : List Expr) (ds : List D) (es' : List R) (is : List Nat) : Prop :=
  ∀ (B : Bas) (F H : Hp) (E : EL) (T : TL) (vs : List V) (Q : St → Hp → Prop), E.map (·.1) = es → (∀ i ∈ is, ∀ x ∈ T, x.1 ≠ .loc i) → StOk X.K B F H E T → Reps X.K F ds vs →
    (∀ E', E'.map (·.1) = es' → (∀ vs : List Nat, (∀ i ∈ is, i ∈ vs) → wipe (E'.map (·.2)) vs = wipe (E.map (·.2)) vs) → StOk X.K B F H E' T → Q (E'.map (·.2)) H) → wGs X tgs vs (E.map (·.2)) H Q
theorem wipe_set {σ : St} {i : Nat} {v : Option V} : ∀ {vs : List Nat}, i ∈ vs → wipe (σ.set i v) vs = wipe σ vs
  | [], h => by simp at h
  | w :: vs, h => by
    unfold wipe
    by_cases hm : i ∈ vs
    · rw [wipe_set hm]
    · have e : i = w := by
        rcases List.mem_cons.mp h with h | h
        · exact h
        · exact absurd h hm
      subst e
      have : ∀ vs : List Nat, i ∉ vs → wipe (σ.set i v) vs = (wipe σ vs).set i v := by
        intro vs
        induction vs with
        | nil => intro _; rfl
        | cons u us ih =>
          intro hn
          unfold wipe
          rw [ih (fun z => hn (List.mem_cons_of_mem _ z)), List.set_comm]
          exact fun z => hn (z ▸ List.mem_cons_self)
      rw [this vs hm, List.set_set]
theorem gv_name {i : Nat} {x : Str} {d : D} (hN : X.N.Nodup) (hi : X.N[i]? = some x) (hx : Loc X.env.scope x) (hf : X.fn x = true ∨ X.env.scope.names.lookup x = some .local) : GV X es (.Name x pos) d (es.set i (.imm d)) [i] :=
  fun B F H E T v Q hE hT S k => of_pg (pg_name hN hi hx hf) (by
    have := k (E.set i (.imm d, some v)) (by rw [List.map_set, hE]) (fun vs hv => by rw [List.map_set]; exact wipe_set (hv i (by simp))) (S.setG rfl (hT i (by simp)))
    rw [List.map_set] at this; exact this)
theorem gvs_nil : GVs X es [] [] es [] := fun B F H E T vs Q hE hT S hr k => of_pgs pgs_nil (by
  rw [Reps] at hr
  exact ⟨hr, k E hE (fun _ _ => rfl) S⟩)
theorem gvs_cons {tg : Expr} {tgs : List Expr} {d : D} {ds : List D} {i1 i2 : List Nat} (h1 : GV X es tg d es1 i1) (h2 : GVs X es1 tgs ds es2 i2) (hs : (assignEach (tg :: tgs) X.env).map (·.2) = assign tg X.env :: (assignEach tgs X.env).map (·.2)) :
    GVs X es (tg :: tgs) (d :: ds) es2 (i1 ++ i2) := fun B F H E T vs Q hE hT S hr k => of_pgs (pgs_cons pg_w pgs_w hs) (by
  rw [Reps] at hr
  obtain ⟨x, r, rfl, h3, h4⟩ := hr
  refine ⟨x, r, rfl, ?_⟩
  refine h1 B F H E T x _ hE (fun i hi => hT i (List.mem_append_left _ hi)) (S.imm h3) fun E1 e1 w1 S1 => ?_
  refine h2 B F H E1 T r Q e1 (fun i hi => hT i (List.mem_append_right _ hi)) S1 h4 fun E2 e2 w2 S2 => ?_
  exact k E2 e2 (fun vs hv => (w2 vs fun i hi => hv i (List.mem_append_right _ hi)).trans (w1 vs fun i hi => hv i (List.mem_append_left _ hi))) S2)
theorem gv_tup {tgs : List Expr} {ds : List D} {k : Nat} {is : List Nat} (hc : X.calm = true) (h : GVs X es tgs ds es1 is) (hn : (assignEach tgs X.env).length = ds.length) (hst : (assignEach tgs X.env).findIdx? (·.1) = none) : GV X es (.Tuple tgs k pos) (.tup ds) es1 is :=
  fun B F H E T v Q hE hT S k => of_pg (pg_tup hc pgs_w (n := ds.length) hn hst) (by
    have hr : Rep X.K F (.tup ds) v := (S.entT _ List.mem_cons_self).noloc rfl
    rw [Rep] at hr
    obtain ⟨a, xs, rfl, hq, hr⟩ := hr
    have hq' : SqT X.K H a xs := by
      rcases hq with (hq | ⟨o, hq⟩) | hq
      · refine .inl (.inl ?_)
        have := S.le _ _ hq
        cases e : B.lk a with
        | none => exact (At.nolk e).mp this
        | some ob => obtain ⟨kvs, hk⟩ := S.lkd a ob e; rw [hq] at hk; cases hk
      · refine .inl (.inr ⟨o, ?_⟩)
        have := S.le _ _ hq
        cases e : B.lk a with
        | none => exact (At.nolk e).mp this
        | some ob => obtain ⟨kvs, hk⟩ := S.lkd a ob e; rw [hq] at hk; cases hk
      · exact .inr hq
    exact ⟨a, xs, rfl, hq', hr.len.symm, h B F H E T xs Q hE hT S.pop hr k⟩)
/-- F's tuples, F's lists as they stand in the heap -/
theorem StOk.sqt {K : PySem.W.Frag} {B : Bas} {F H : Hp} {E : EL} {T : TL} (S : StOk K B F H E T) {a : Addr} {xs : List V} (hq : SqT K F a xs) : SqT K H a xs := by
  rcases hq with (hq | ⟨o, hq⟩) | hq
  · refine .inl (.inl ?_)
    have := S.le _ _ hq
    cases e : B.lk a with
    | none => exact (At.nolk e).mp this
    | some ob => obtain ⟨kvs, hk⟩ := S.lkd a ob e; rw [hq] at hk; cases hk
  · refine .inl (.inr ⟨o, ?_⟩)
    have := S.le _ _ hq
    cases e : B.lk a with
    | none => exact (At.nolk e).mp this
    | some ob => obtain ⟨kvs, hk⟩ := S.lkd a ob e; rw [hq] at hk; cases hk
  · exact .inr hq
theorem StOk.lst {K : PySem.W.Frag} {B : Bas} {F H : Hp} {E : EL} {T : TL} (S : StOk K B F H E T) {a : Addr} {xs : List V} (hq : F a = some (.lst xs)) : H a = some (.lst xs) := by
  have := S.le _ _ hq
  cases e : B.lk a with
  | none => exact (At.nolk e).mp this
  | some ob => obtain ⟨kvs, hk⟩ := S.lkd a ob e; rw [hq] at hk; cases hk
theorem StOk.sql {K : PySem.W.Frag} {B : Bas} {F H : Hp} {E : EL} {T : TL} (S : StOk K B F H E T) {a : Addr} {xs : List V} (hq : SqL K F a xs) : SqL K H a xs := by
  rcases hq with (hq | ⟨o, hq⟩) | hq
  · exact .inl (.inl (S.lst hq))
  · refine .inl (.inr ⟨o, ?_⟩)
    have := S.le _ _ hq
    cases e : B.lk a with
    | none => exact (At.nolk e).mp this
    | some ob => obtain ⟨kvs, hk⟩ := S.lkd a ob e; rw [hq] at hk; cases hk
  · exact .inr hq
/-- target = value -/
theorem s_asg {tg : Expr} {d : D} {is : List Nat} (h : EV X es e es1 (.imm d)) (hg : GV X es1 tg d es2 is) (k : P.nx es2) (hs : swapsWithSole [tg] e pos.line X.env = pure false) (hw : swappedStores [tg] e X.env = pure none)
    (h1 : (assignEach [tg] X.env).map (·.2) = [assign tg X.env]) : S1 X es (.Assign [tg] e pos) P := fun B F H E T D hE hT S A =>
  of_ps (ps_asg pe_w pg_w hs hw h1) (h B F H E T _ hE S fun v F' H' E' xx e1 e2 S' => by
    rw [← e2]
    exact hg B F' H' E' T v _ e1 (fun i _ => hT.ne) S' fun E2 f1 _ S2 => A.nx F' H' E2 xx S2 (by rw [f1]; exact k))

/-! ### what is walked -/
def wI (X : Cx) (tg iter : Expr) : TI := fun σ H R => ∀ pins s, Inv X pins σ H s → wpAny (model X.prog X.w) X.A (eval iter X.env) (fun v s1 => wpAny (model X.prog X.w) X.A (pyIter v) (PIE X pins σ tg R) X.xe s1) X.xe s
theorem pi_w {tg iter : Expr} : PI X tg iter (wI X tg iter) := ⟨fun pins s σ H R I h => h pins s I⟩
theorem of_pi {tg iter : Expr} {t : TI} (h : PI X tg iter t) {σ : St} {H : Hp} {R : It → Hp → Prop} (q : t σ H R) : wI X tg iter σ H R := fun pins s I => h.run pins s σ H R I q
/-- the iterator gives the items ds, one after the other, as long as the temporaries T1 stand -/
structure Walks (K : PySem.W.Frag) (B : Bas) (F : Hp) (T1 : TL) (J : It) (ds : List D) : Prop where
  item : ∀ (i : Nat) (d : D) (F' H : Hp) (E : EL) (T : TL), ds[i]? = some d → Ext F F' → StOk K B F' H E (T1 ++ T) → J.go i H ∧ ∀ x H', J.yld i H x H' → ∃ F2, Ext F' F2 ∧ StOk K B F2 H' E ((.imm d, x) :: (T1 ++ T))
  stop : ∀ (F' H : Hp) (E : EL) (T : TL), Ext F F' → StOk K B F' H E (T1 ++ T) → J.stop ds.length H
def IV (X : Cx) (es : List R) (tg iter : Expr) (es' : List R) (ds : List D) : Prop :=
  ∀ (B : Bas) (F H : Hp) (E : EL) (T : TL) (Rr : It → Hp → Prop), E.map (·.1) = es → StOk X.K B F H E T →
    (∀ J T1 F' H' E', Ext F F' → E'.map (·.1) = es' → E'.map (·.2) = E.map (·.2) → NoLoc T1 → StOk X.K B F' H' E' (T1 ++ T) → Walks X.K B F' T1 J ds → Rr J H') → wI X tg iter (E.map (·.2)) H Rr
theorem iv_list {tg iter : Expr} {ds : List D} (h : EV X es iter es1 (.imm (.lst ds))) : IV X es tg iter es1 ds := fun B F H E T Rr hE S k =>
  of_pi (pi_list pe_w) (h B F H E T _ hE S fun v F1 H1 E1 x1 e1 e2 S1 => by
    have hr : Rep X.K F1 (.lst ds) v := (S1.entT _ List.mem_cons_self).noloc rfl
    rw [Rep] at hr
    obtain ⟨a, xs, rfl, hq, hr⟩ := hr
    refine ⟨a, rfl, ⟨xs, .inl (.inl (S1.lst hq))⟩, k (Itl X.K a) [(.imm (.lst ds), .ref a)] F1 H1 E1 x1 e1 e2 (fun x hx => by simp at hx; subst hx; rfl) S1 ?_⟩
    refine ⟨fun i d F' H' E' T' hd x' S' => ?_, fun F' H' E' T' x' S' => ?_⟩
    · obtain ⟨x, hx, hrx⟩ := hr.get hd
      have hl := S'.lst (x' _ _ hq)
      refine ⟨⟨xs, x, .inl (.inl hl), hx⟩, fun y H2 hy => ?_⟩
      obtain ⟨rfl, hy⟩ := hy
      have := hy xs (.inl (.inl hl))
      rw [hx] at this
      cases this
      exact ⟨F', Ext.refl _, S'.imm (Rep.ext x' _ _ hrx)⟩
    · exact ⟨xs, .inl (.inl (S'.lst (x' _ _ hq))), by rw [hr.len]; exact Nat.le_refl _⟩)
theorem iv_tup {tg iter : Expr} {ds : List D} (h : EV X es iter es1 (.imm (.tup ds))) : IV X es tg iter es1 ds := fun B F H E T Rr hE S k =>
  of_pi (pi_tup pe_w) (h B F H E T _ hE S fun v F1 H1 E1 x1 e1 e2 S1 => by
    have hr : Rep X.K F1 (.tup ds) v := (S1.entT _ List.mem_cons_self).noloc rfl
    rw [Rep] at hr
    obtain ⟨a, xs, rfl, hq, hr⟩ := hr
    refine ⟨a, rfl, ⟨xs, S1.sqt hq⟩, k (Itt X.K a) [(.imm (.tup ds), .ref a)] F1 H1 E1 x1 e1 e2 (fun x hx => by simp at hx; subst hx; rfl) S1 ?_⟩
    refine ⟨fun i d F' H' E' T' hd x' S' => ?_, fun F' H' E' T' x' S' => ?_⟩
    · obtain ⟨x, hx, hrx⟩ := hr.get hd
      have hl := S'.sqt (sqt_ext x' hq)
      refine ⟨⟨xs, x, hl, hx⟩, fun y H2 hy => ?_⟩
      obtain ⟨rfl, hy⟩ := hy
      have := hy xs hl
      rw [hx] at this
      cases this
      exact ⟨F', Ext.refl _, S'.imm (Rep.ext x' _ _ hrx)⟩
    · exact ⟨xs, S'.sqt (sqt_ext x' hq), by rw [hr.len]; exact Nat.le_refl _⟩)
/-- lo, lo + 1, .. -/
def rangeD (lo hi : Int) : List D := (List.range (hi - lo).toNat).map fun i => .int (lo + (i : Nat))
theorem rangeD_len (lo hi : Int) : (rangeD lo hi).length = (hi - lo).toNat := by simp [rangeD]
theorem rangeD_get {lo hi : Int} {i : Nat} {d : D} (h : (rangeD lo hi)[i]? = some d) : i < (hi - lo).toNat ∧ d = .int (lo + (i : Nat)) := by
  unfold rangeD at h
  rw [List.getElem?_map] at h
  cases e : (List.range (hi - lo).toNat)[i]? with
  | none => rw [e] at h; cases h
  | some j =>
    rw [e] at h
    obtain ⟨h1, h2⟩ := List.getElem?_eq_some_iff.mp e
    simp at h1 h2
    subst h2
    exact ⟨by omega, (Option.some.inj h).symm⟩
theorem walks_range {K : PySem.W.Frag} {B : Bas} {F : Hp} {lo : Int} {n : Nat} {ds : List D} (hl : ds.length = n) (hg : ∀ (i : Nat) (d : D), ds[i]? = some d → d = D.int (lo + (i : Nat))) : Walks K B F [] (Itr lo n) ds :=
  ⟨fun i d F' H' E' T' hd x' S' => by
    have hi : i < n := by rw [← hl]; exact (List.getElem?_eq_some_iff.mp hd).1
    refine ⟨hi, fun y H2 hy => ?_⟩
    obtain ⟨rfl, rfl⟩ := hy
    rw [hg i d hd]
    exact ⟨F', Ext.refl _, StOk.imm S' (Rep.int_iff.mpr rfl)⟩, fun F' H' E' T' x' S' => by rw [hl]; exact Nat.le_refl _⟩
theorem iv_range1 {tg a : Expr} {p : Pos} {j : Int} (h : EV X es a es1 (.imm (.int j))) (h1 : -(2 ^ 62) ≤ j) (h2 : j < 2 ^ 62) (hg : Gl X "range") (hm : X.mg "range" = none) (hs : starEach [a] X.env = [(false, eval a X.env)]) : IV X es tg (.Call (.Name "range" p) [a] [] pos) es1 (rangeD 0 j) := fun B F H E T Rr hE S k =>
  of_pi (pi_range1 hg hm (pa_cons pe_w pa_nil hs) hs) (h B F H E T _ hE S fun v F1 H1 E1 x1 e1 e2 S1 => by
    refine ⟨j, by rw [S1.topInt], h1, h2, k (Itr 0 j.toNat) [] F1 H1 E1 x1 e1 e2 (fun x hx => by simp at hx) S1.pop ?_⟩
    exact walks_range (by rw [rangeD_len]; simp) fun i d hd => (rangeD_get hd).2)
theorem iv_range2 {tg a b : Expr} {p : Pos} {i j : Int} (ha : EV X es a es1 (.imm (.int i))) (hb : EV X es1 b es2 (.imm (.int j))) (h1 : -(2 ^ 62) ≤ i ∧ i < 2 ^ 62 ∧ -(2 ^ 62) ≤ j ∧ j < 2 ^ 62) (hg : Gl X "range") (hm : X.mg "range" = none)
    (hs : starEach [a, b] X.env = [(false, eval a X.env), (false, eval b X.env)]) (hs2 : starEach [b] X.env = [(false, eval b X.env)]) : IV X es tg (.Call (.Name "range" p) [a, b] [] pos) es2 (rangeD i j) := fun B F H E T Rr hE S k =>
  of_pi (pi_range2 hg hm (pa_cons pe_w (pa_cons pe_w pa_nil hs2) (by rw [hs, hs2])) hs hs2) (ha B F H E T _ hE S fun v F1 H1 E1 x1 e1 e2 S1 => by
    have := hb B F1 H1 E1 _ (fun w H2 => ∃ i j : Int, [v, w] = [V.int i, .int j] ∧ (-(2 ^ 62) ≤ i ∧ i < 2 ^ 62 ∧ -(2 ^ 62) ≤ j ∧ j < 2 ^ 62) ∧ Rr (Itr i (j - i).toNat) H2) e1 S1 fun w F2 H2 E2 x2 f1 f2 S2 => ?_
    · rw [e2] at this; exact this
    · refine ⟨i, j, by rw [S2.topInt, S2.pop.topInt], h1, k (Itr i (j - i).toNat) [] F2 H2 E2 (x1.trans x2) f1 (f2.trans e2) (fun x hx => by simp at hx) S2.pop.pop ?_⟩
      exact walks_range (rangeD_len i j) fun k d hd => (rangeD_get hd).2)

/-! ### for -/
/-- a target, where no temporary is a place -/
def GV0 (X : Cx) (es : List R) (tg : Expr) (d : D) (es' : List R) (is : List Nat) : Prop :=
  ∀ (B : Bas) (F H : Hp) (E : EL) (T : TL) (v : V) (Q : St → Hp → Prop), E.map (·.1) = es → NoLoc T → StOk X.K B F H E ((.imm d, v) :: T) →
    (∀ E', E'.map (·.1) = es' → StOk X.K B F H E' T → Q (E'.map (·.2)) H) → wG X tg v (E.map (·.2)) H Q
theorem GV.g0 {es' : List R} {tg : Expr} {d : D} {is : List Nat} (h : GV X es tg d es' is) : GV0 X es tg d es' is := fun B F H E T v Q hE hT S k => h B F H E T v Q hE (fun i _ => hT.ne) S fun E' e1 _ S' => k E' e1 S'
theorem s_for {tg iter : Expr} {body : List Stmt} {ds : List D} (hi : IV X es tg iter es1 ds) (I : Nat → List R → Prop) (h0 : I 0 es1)
    (hs : ∀ k d e, ds[k]? = some d → I k e → ∃ e' is, GV0 X e tg d e' is ∧ SV X e' body { nx := I (k + 1), rt := P.rt, ct := I (k + 1), bk := P.nx }) (hd : ∀ e, I ds.length e → P.nx e)
    (hc : X.calm = true) (hfs : ∀ x, foldedSetIterable iter X.env x = pure x) (hxe : X.xe = fun _ _ => False) : S1 X es (.For tg iter body [] pos) P := fun B F H E T D hE hT S A => by
  have hp : PassesOwn (model X.prog X.w) X.A X.env X.xe := by rw [hxe]; exact PassesOwn.never
  refine of_ps (ps_for hp hc pi_w pg_w pss_w hfs) (hi B F H E T _ hE S fun J T1 F1 H1 E1 x1 e1 e2 n1 S1 W => ?_)
  refine ⟨fun i m σ H => m = ds.length - i ∧ i ≤ ds.length ∧ ∃ F' E', Ext F1 F' ∧ E'.map (·.2) = σ ∧ StOk X.K B F' H E' (T1 ++ T) ∧ I i (E'.map (·.1)), ⟨_, rfl, Nat.zero_le _, F1, E1, Ext.refl _, e2, S1, by rw [e1]; exact h0⟩, ?_⟩
  rintro i m σ H2 ⟨rfl, hle, F2, E2, x2, rfl, S2, hI⟩
  have hnl : NoLoc (T1 ++ T) := fun x hx => by
    rcases List.mem_append.mp hx with hx | hx
    · exact n1 x hx
    · exact hT x hx
  by_cases hlt : i < ds.length
  · refine .inr ?_
    obtain ⟨d, hd'⟩ : ∃ d, ds[i]? = some d := ⟨ds[i], by simp [hlt]⟩
    obtain ⟨go, yl⟩ := W.item i d F2 H2 E2 T hd' x2 S2
    refine ⟨go, fun σ' H' => ∃ F' E', Ext F1 F' ∧ E'.map (·.2) = σ' ∧ StOk X.K B F' H' E' (T1 ++ T) ∧ I (i + 1) (E'.map (·.1)), fun σ' H' hN => ⟨_, by omega, rfl, hlt, hN⟩, fun x H' hy => ?_⟩
    obtain ⟨F3, x3, S3⟩ := yl x H' hy
    obtain ⟨e', is, hg, hb⟩ := hs i d _ hd' hI
    refine hg B F3 H' E2 (T1 ++ T) x _ rfl hnl S3 fun E4 f1 S4 => ?_
    refine hb B F3 H' E4 (T1 ++ T) _ f1 hnl S4 ⟨fun F' H' E' y S' q => ⟨F', E', x2.trans (x3.trans y), rfl, S', q⟩, fun v r F' H' E' y S' q => ?_, fun F' H' E' y S' q => ?_, fun F' H' E' y S' q => ⟨F', E', x2.trans (x3.trans y), rfl, S', q⟩⟩
    · exact A.rt v r F' H' E' (x1.trans (x2.trans (x3.trans y))) (S'.sub (.cons_cons _ (List.sublist_append_right _ _))) q
    · exact A.nx F' H' E' (x1.trans (x2.trans (x3.trans y))) S'.drop q
  · have e : i = ds.length := by omega
    subst e
    exact .inl ⟨W.stop F2 H2 E2 T x2 S2, A.nx F2 H2 E2 (x1.trans x2) S2.drop (hd _ hI)⟩
/-! ### while -/
/-- a test where no temporary is a place -/
def TVw (X : Cx) (es : List R) (e : Expr) (es' : List R) (b : Bool) : Prop :=
  ∀ (B : Bas) (F H : Hp) (E : EL) (T : TL) (Q : Bool → Hp → Prop), E.map (·.1) = es → NoLoc T → StOk X.K B F H E T →
    (∀ F' H' E', Ext F F' → E'.map (·.1) = es' → E'.map (·.2) = E.map (·.2) → StOk X.K B F' H' E' T → Q b H') → wT X e (E.map (·.2)) H Q
theorem TV.w {b : Bool} (h : TV X es e es1 b) : TVw X es e es1 b := fun B F H E T Q hE _ S k => h B F H E T Q hE S k

theorem s_while {body : List Stmt} (I : Nat → List R → Prop) (h0 : ∃ m, I m es)
    (hs : ∀ m e, I m e → ∃ e1 p, TVw X e c e1 p ∧ (p = true → SV X e1 body { nx := fun e' => ∃ m', m' < m ∧ I m' e', rt := P.rt, ct := fun e' => ∃ m', m' < m ∧ I m' e', bk := P.nx }) ∧ (p = false → P.nx e1)) (hxe : X.xe = fun _ _ => False) :
    S1 X es (.While c body [] pos) P := fun B F H E T D hE hT S A => by
  have hp : PassesOwn (model X.prog X.w) X.A X.env X.xe := by rw [hxe]; exact PassesOwn.never
  obtain ⟨m0, hm0⟩ := h0
  refine of_ps (ps_while hp pt_w pss_w) ⟨fun m σ H => ∃ F' E', Ext F F' ∧ E'.map (·.2) = σ ∧ StOk X.K B F' H E' T ∧ I m (E'.map (·.1)), ⟨m0, F, E, Ext.refl _, rfl, S, by rw [hE]; exact hm0⟩, ?_⟩
  rintro m σ H1 ⟨F1, E1, x1, rfl, S1, hI⟩
  obtain ⟨e1, p, ht, hb, hn⟩ := hs m _ hI
  refine ht B F1 H1 E1 T _ rfl hT S1 fun F2 H2 E2 x2 f1 f2 S2 => ?_
  cases hpp : p with
  | true =>
    rw [if_pos rfl]
    refine ⟨fun σ' H' => ∃ m', m' < m ∧ ∃ F' E', Ext F F' ∧ E'.map (·.2) = σ' ∧ StOk X.K B F' H' E' T ∧ I m' (E'.map (·.1)), fun σ' H' ⟨m', hm, h⟩ => ⟨m', hm, h⟩, ?_⟩
    rw [← f2]
    refine hb hpp B F2 H2 E2 T _ f1 hT S2 ⟨fun F' H' E' y S' ⟨m', hm, q⟩ => ⟨m', hm, F', E', x1.trans (x2.trans y), rfl, S', q⟩, fun v r F' H' E' y S' q => A.rt v r F' H' E' (x1.trans (x2.trans y)) S' q,
      fun F' H' E' y S' q => A.nx F' H' E' (x1.trans (x2.trans y)) S' q, fun F' H' E' y S' ⟨m', hm, q⟩ => ⟨m', hm, F', E', x1.trans (x2.trans y), rfl, S', q⟩⟩
  | false =>
    rw [if_neg Bool.false_ne_true, ← f2]
    exact A.nx F2 H2 E2 (x1.trans x2) S2 (by rw [f1]; exact hn hpp)
end
end DL

set_option maxRecDepth 100000
set_option maxHeartbeats 1000000
/-! The data layer: comprehensions, calls of defs, the def's own theorem. -/
namespace DL
open PySem L2
open PyProof.Rows hiding St

def wipeE (E : EL) : List Nat → EL
  | [] => E
  | v :: vs => (wipeE E vs).set v (.any, none)
def wipeR (es : List R) : List Nat → List R
  | [] => es
  | v :: vs => (wipeR es vs).set v .any
theorem wipeE_fst {E : EL} : ∀ vs, (wipeE E vs).map (·.1) = wipeR (E.map (·.1)) vs
  | [] => rfl
  | v :: vs => by unfold wipeE wipeR; rw [List.map_set, wipeE_fst vs]
theorem wipeE_snd {E : EL} : ∀ vs, (wipeE E vs).map (·.2) = wipe (E.map (·.2)) vs
  | [] => rfl
  | v :: vs => by unfold wipeE wipe; rw [List.map_set, wipeE_snd vs]
section
variable {K : PySem.W.Frag} {B : Bas} {F H : Hp} {E : EL} {T : TL}
theorem StOk.wipe (S : StOk K B F H E T) : ∀ {vs : List Nat}, (∀ i ∈ vs, ∀ x ∈ T, x.1 ≠ .loc i) → StOk K B F H (wipeE E vs) T
  | [], _ => S
  | v :: vs, h => (StOk.wipe S (vs := vs) fun i hi => h i (List.mem_cons_of_mem _ hi)).any (h v List.mem_cons_self)
/-- the slots' values at vs are those of another row -/
def backE (E : EL) (σ : St) : List Nat → EL
  | [] => E
  | v :: vs => (backE E σ vs).set v (.any, σ[v]?.getD none)
theorem backE_fst {σ : St} : ∀ {E : EL} (vs : List Nat), (backE E σ vs).map (·.1) = wipeR (E.map (·.1)) vs
  | _, [] => rfl
  | E, v :: vs => by unfold backE wipeR; rw [List.map_set, backE_fst vs]
theorem StOk.back (S : StOk K B F H E T) {σ : St} : ∀ {vs : List Nat}, (∀ i ∈ vs, ∀ x ∈ T, x.1 ≠ .loc i) → StOk K B F H (backE E σ vs) T
  | [], _ => S
  | v :: vs, h => (StOk.back S (vs := vs) fun i hi => h i (List.mem_cons_of_mem _ hi)).any (h v List.mem_cons_self)
theorem wipe_get {σ : St} {i : Nat} : ∀ {vs : List Nat}, i ∉ vs → (wipe σ vs)[i]? = σ[i]?
  | [], _ => rfl
  | v :: vs, h => by
    unfold wipe
    rw [List.getElem?_set_ne (fun e => h (by simp [e]))]
    exact wipe_get fun z => h (List.mem_cons_of_mem _ z)
theorem wipe_at {σ : St} {w : Nat} : ∀ {us : List Nat}, w ∈ us → (L2.wipe σ us)[w]? = if w < σ.length then some none else none
  | [], h => by simp at h
  | u :: us, h => by
    show ((L2.wipe σ us).set u none)[w]? = _
    by_cases e : u = w
    · subst e
      rw [List.getElem?_set]
      simp [wipe_length]
    · rw [List.getElem?_set_ne e]
      exact wipe_at (by
        rcases List.mem_cons.mp h with h | h
        · exact absurd h.symm e
        · exact h)
theorem wipe_wipe {σ : St} {us : List Nat} : ∀ {ws : List Nat}, (∀ j ∈ ws, j ∈ us) → L2.wipe (L2.wipe σ us) ws = L2.wipe σ us
  | [], _ => rfl
  | w :: ws, hs => by
    show (L2.wipe (L2.wipe σ us) ws).set w none = _
    rw [wipe_wipe fun j hj => hs j (List.mem_cons_of_mem _ hj)]
    apply List.ext_getElem?
    intro j
    by_cases e : w = j
    · subst e
      rw [wipe_at (hs w List.mem_cons_self), List.getElem?_set]
      simp [wipe_length]
    · rw [List.getElem?_set_ne e]
theorem backE_get {σ : St} {E : EL} (hl : E.length = σ.length) : ∀ {vs : List Nat} {i : Nat}, i ∈ vs → ((backE E σ vs).map (·.2))[i]? = σ[i]?
  | [], i, h => by simp at h
  | v :: vs, i, h => by
    unfold backE
    rw [List.map_set]
    have hlen : ∀ ws, (backE E σ ws).length = E.length := by
      intro ws
      induction ws with
      | nil => rfl
      | cons w ws ih => unfold backE; rw [List.length_set, ih]
    by_cases e : v = i
    · subst e
      by_cases hv : v < σ.length
      · rw [List.getElem?_set_self (by rw [List.length_map, hlen, hl]; exact hv)]
        simp [hv]
      · rw [List.getElem?_eq_none (by rw [List.length_set, List.length_map, hlen, hl]; omega), List.getElem?_eq_none (by omega)]
    · rw [List.getElem?_set_ne e]
      exact backE_get hl (by
        rcases List.mem_cons.mp h with h | h
        · exact absurd h.symm e
        · exact h)
theorem backE_out {σ : St} {E : EL} : ∀ {vs : List Nat} {i : Nat}, i ∉ vs → ((backE E σ vs).map (·.2))[i]? = (E.map (·.2))[i]?
  | [], i, h => rfl
  | v :: vs, i, h => by
    unfold backE
    rw [List.map_set, List.getElem?_set_ne (fun e => h (by simp [e]))]
    exact backE_out fun z => h (List.mem_cons_of_mem _ z)
theorem backE_snd {σ : St} {E : EL} {vs : List Nat} (h : E.map (·.2) = L2.wipe σ vs) : (backE E σ vs).map (·.2) = σ := by
  have hl : E.length = σ.length := by
    have := congrArg List.length h
    rwa [List.length_map, wipe_length] at this
  apply List.ext_getElem?
  intro i
  by_cases hi : i ∈ vs
  · exact backE_get hl hi
  · rw [backE_out hi, h, wipe_get hi]
end

/-- the ifs of a comprehension -/
def wTs (X : Cx) (ifs : List Expr) : TT := fun σ H Q => (∀ (X' : Cx), X' = X → PTs X' ifs fun σ' H' Q' => σ' = σ ∧ H' = H ∧ Q' = Q) ∨ False
inductive IfV (X : Cx) (es : List R) : List Expr → List R → Bool → Prop where
  | nil : IfV X es [] es true
  | one {c : Expr} {es1 : List R} {b : Bool} : TV X es c es1 b → IfV X es [c] es1 b
/-- a test's reading in all blocks -/
def bT (X : Cx) (scope : Scope) (e : Expr) : TT := fun σ H Q => ∀ (s : Shared) (Hb : Hp) (C : Addr) (cl : List (Str × Addr)) (fp : List Addr), wT (X.blk s Hb scope (compEnvC scope cl C X.env) fp) e σ H Q
def bE (X : Cx) (scope : Scope) (e : Expr) : TE := fun σ H Q => ∀ (s : Shared) (Hb : Hp) (C : Addr) (cl : List (Str × Addr)) (fp : List Addr), wE (X.blk s Hb scope (compEnvC scope cl C X.env) fp) e σ H Q
def bG (X : Cx) (scope : Scope) (e : Expr) : TG := fun v σ H Q => ∀ (s : Shared) (Hb : Hp) (C : Addr) (cl : List (Str × Addr)) (fp : List Addr), wG (X.blk s Hb scope (compEnvC scope cl C X.env) fp) e v σ H Q
/-- judgements in all blocks -/
def BE (X : Cx) (scope : Scope) (es : List R) (e : Expr) (es' : List R) (r : R) : Prop := ∀ (s : Shared) (Hb : Hp) (C : Addr) (cl : List (Str × Addr)) (fp : List Addr), EV (X.blk s Hb scope (compEnvC scope cl C X.env) fp) es e es' r
def BT (X : Cx) (scope : Scope) (es : List R) (e : Expr) (es' : List R) (b : Bool) : Prop := ∀ (s : Shared) (Hb : Hp) (C : Addr) (cl : List (Str × Addr)) (fp : List Addr), TV (X.blk s Hb scope (compEnvC scope cl C X.env) fp) es e es' b
def BG (X : Cx) (scope : Scope) (es : List R) (e : Expr) (d : D) (es' : List R) (is : List Nat) : Prop := ∀ (s : Shared) (Hb : Hp) (C : Addr) (cl : List (Str × Addr)) (fp : List Addr), GV (X.blk s Hb scope (compEnvC scope cl C X.env) fp) es e d es' is
section
variable {X : Cx} {es es1 es2 es3 : List R} {e a b c : Expr} {r ra rb : R} {pos : Pos}
/-- what a comprehension's turns make; ifs: none (cond = none) or one -/
structure Turns (X : Cx) (scope : Scope) (vs : List Nat) (tg elt : Expr) (cond : Option Expr) (ds : List D) (I : Nat → List R → List D → Prop) : Prop where
  turn : ∀ (k : Nat) (d : D) (e : List R) (acc : List D), ds[k]? = some d → I k e acc → acc.length < 1000000 ∧ ∃ e1 is, BG X scope e tg d e1 is ∧ (∀ i ∈ is, i ∈ vs) ∧
    (match cond with
      | none => ∃ e3 d', BE X scope e1 elt e3 (.imm d') ∧ I (k + 1) (wipeR e3 vs) (acc ++ [d'])
      | some c => ∃ e2 b, BT X scope e1 c e2 b ∧ (b = false → I (k + 1) (wipeR e2 vs) acc) ∧ (b = true → ∃ e3 d', BE X scope e2 elt e3 (.imm d') ∧ I (k + 1) (wipeR e3 vs) (acc ++ [d'])))
def ifsOf : Option Expr → List Expr
  | none => []
  | some c => [c]
def ttOf (X : Cx) (scope : Scope) : Option Expr → TT
  | none => tYes
  | some c => bT X scope c
theorem lc_go {tg elt iter : Expr} {cond : Option Expr} {scope : Scope} {vs : List Nat} {ds : List D} {I : Nat → List R → List D → Prop} {out : List D} {es' : List R}
    (hi : IV X es tg iter es1 ds) (hown : ∀ i ∈ vs, ∀ r, es1[i]? = some r → r.isOwn = false) (h0 : I 0 (wipeR es1 vs) []) (W : Turns X scope vs tg elt cond ds I) (hd : ∀ e acc, I ds.length e acc → wipeR e vs = es' ∧ acc = out)
    {B : Bas} {F H : Hp} {E : EL} {T : TL} {Q : VK} (hE : E.map (·.1) = es) (S : StOk X.K B F H E T)
    (k : ∀ v F' H' E', Ext F F' → E'.map (·.1) = es' → E'.map (·.2) = E.map (·.2) → StOk X.K B F' H' E' ((.own out, v) :: T) → Q v H') :
    tLc (wI X tg iter) (bG X scope tg) (ttOf X scope cond) (bE X scope elt) vs (E.map (·.2)) H Q := by
  refine hi B F H E T _ hE S fun J T1 F1 H1 E1 x1 e1 e2 n1 S1 WJ => ?_
  intro L hD
  have hnl : ∀ i ∈ vs, ∀ x ∈ T1 ++ T, x.1 ≠ .loc i := fun i hi => S1.noLocAt fun r v hv => by
    refine hown i hi r ?_
    rw [← e1, List.getElem?_map, hv]; rfl
  -- the invariant
  refine ⟨fun i m H2 => m = ds.length - i ∧ i ≤ ds.length ∧ ∃ F2 E2 acc, Ext F1 F2 ∧ E2.map (·.2) = L2.wipe (E.map (·.2)) vs ∧ StOk X.K B F2 H2 E2 (T1 ++ ((.own acc, .ref L) :: T)) ∧ I i (E2.map (·.1)) acc, ⟨_, rfl, Nat.zero_le _, F1, wipeE E1 vs, [], Ext.refl _, ?_, ?_, ?_⟩, ?_⟩
  · rw [wipeE_snd, e2]
  · have S2 := S1.newL (ds := []) (xs := []) hD Reps.nil
    have S3 : StOk X.K B F1 (upd H1 L (.lst [])) E1 (T1 ++ ((.own [], .ref L) :: T)) := by
      refine ⟨S2.le, S2.sup, S2.new, S2.keep, S2.mus, S2.lkd, S2.entE, fun x hx => S2.entT x ?_, ?_⟩
      · simp only [List.mem_append, List.mem_cons] at hx ⊢
        rcases hx with h | h | h
        · exact .inr (.inl h)
        · exact .inl h
        · exact .inr (.inr h)
      · refine (List.Perm.nodup_iff ?_).mp S2.dis
        refine List.Perm.append_left _ ?_
        rw [List.flatMap_cons, List.flatMap_append, List.flatMap_append, List.flatMap_cons, ← List.append_assoc, ← List.append_assoc]
        exact List.Perm.append_right _ List.perm_append_comm
    refine S3.wipe fun i hi x hx => ?_
    simp only [List.mem_append, List.mem_cons] at hx
    rcases hx with h | h | h
    · exact hnl i hi x (List.mem_append_left _ h)
    · subst h; intro z; cases z
    · exact hnl i hi x (List.mem_append_right _ h)
  · rw [wipeE_fst, e1]; exact h0
  · rintro i m H2 ⟨rfl, hle, F2, E2, acc, x2, es2, S2, hI⟩
    have hnl2 : ∀ j ∈ vs, ∀ x ∈ T1 ++ ((R.own acc, V.ref L) :: T), x.1 ≠ .loc j := fun j hj x hx => by
      simp only [List.mem_append, List.mem_cons] at hx
      rcases hx with h | h | h
      · exact hnl j hj x (List.mem_append_left _ h)
      · subst h; intro z; cases z
      · exact hnl j hj x (List.mem_append_right _ h)
    by_cases hlt : i < ds.length
    · refine .inr ?_
      obtain ⟨d, hd'⟩ : ∃ d, ds[i]? = some d := ⟨ds[i], by simp [hlt]⟩
      obtain ⟨go, yl⟩ := WJ.item i d F2 H2 E2 _ hd' x2 S2
      refine ⟨go, fun H' => ∃ F' E' acc', Ext F1 F' ∧ E'.map (·.2) = L2.wipe (E.map (·.2)) vs ∧ StOk X.K B F' H' E' (T1 ++ ((.own acc', .ref L) :: T)) ∧ I (i + 1) (E'.map (·.1)) acc', fun H' hN => ⟨_, by omega, rfl, hlt, hN⟩, fun x H' hy => ?_⟩
      obtain ⟨F3, x3, S3⟩ := yl x H' hy
      obtain ⟨hacc, e1', is, hg, his, W'⟩ := W.turn i d _ acc hd' hI
      rw [← es2]
      intro s Hb C cl fp
      refine hg s Hb C cl fp B F3 H' E2 _ x _ rfl (fun j hj => hnl2 j (his j hj)) S3 fun E4 f1 w4 S4 => ?_
      have w4 := w4 vs his
      have ww : L2.wipe (E2.map (·.2)) vs = E2.map (·.2) := by
        rw [es2]
        exact wipe_wipe fun j hj => hj
      refine ⟨by rw [w4, ww], ?_⟩
      -- what stands behind the element
      have fin : ∀ {F5 H5 : Hp} {E5 : EL}, Ext F3 F5 → E5.map (·.2) = E4.map (·.2) → StOk X.K B F5 H5 E5 (T1 ++ ((.own acc, .ref L) :: T)) → I (i + 1) (wipeR (E5.map (·.1)) vs) acc →
          ∃ F' E' acc', Ext F1 F' ∧ E'.map (·.2) = E2.map (·.2) ∧ StOk X.K B F' H5 E' (T1 ++ ((.own acc', .ref L) :: T)) ∧ I (i + 1) (E'.map (·.1)) acc' := fun {F5 H5 E5} x5 f5 S5 hI5 =>
        ⟨F5, wipeE E5 vs, acc, x2.trans (x3.trans x5), by rw [wipeE_snd, f5, w4, ww], S5.wipe hnl2, by rw [wipeE_fst]; exact hI5⟩
      have app : ∀ {F5 H5 : Hp} {E5 : EL} {y : V} {d' : D}, Ext F3 F5 → E5.map (·.2) = E4.map (·.2) → StOk X.K B F5 H5 E5 ((.imm d', y) :: (T1 ++ ((.own acc, .ref L) :: T))) → I (i + 1) (wipeR (E5.map (·.1)) vs) (acc ++ [d']) →
          ∃ xs, H5 L = some (.lst xs) ∧ xs.length < sizeLine ∧ ∃ F' E' acc', Ext F1 F' ∧ E'.map (·.2) = E2.map (·.2) ∧ StOk X.K B F' (upd H5 L (.lst (xs ++ [y]))) E' (T1 ++ ((.own acc', .ref L) :: T)) ∧ I (i + 1) (E'.map (·.1)) acc' := fun {F5 H5 E5 y d'} x5 f5 S5 hI5 => by
        have hy : Rep X.K F5 d' y := (S5.entT _ List.mem_cons_self).noloc rfl
        have hD5 : EntO X.K B F5 H5 (.own acc) (.ref L) := (S5.entT (.own acc, .ref L) (by simp)).noloc rfl
        obtain ⟨D', e', ⟨xs, h1, h2, h3⟩, h4⟩ := hD5
        cases e'
        have hdis : L ∉ E5.flatMap ownE ∧ L ∉ (T1 ++ T).flatMap ownT := by
          have hd5 := S5.pop.dis
          have : (E5.flatMap ownE ++ (T1 ++ ((R.own acc, V.ref L) :: T)).flatMap ownT).Perm (L :: (E5.flatMap ownE ++ (T1 ++ T).flatMap ownT)) := by
            rw [List.flatMap_append, List.flatMap_append, List.flatMap_cons]
            show (E5.flatMap ownE ++ (T1.flatMap ownT ++ (L :: T.flatMap ownT))).Perm _
            rw [← List.append_assoc, ← List.append_assoc]
            exact List.perm_middle
          have := (List.Perm.nodup_iff this).mp hd5
          rw [List.nodup_cons] at this
          exact ⟨fun z => this.1 (List.mem_append_left _ z), fun z => this.1 (List.mem_append_right _ z)⟩
        refine ⟨xs, h1, by rw [← h2.len]; exact Nat.lt_of_lt_of_le hacc (by decide), F5, wipeE E5 vs, acc ++ [d'], x2.trans (x3.trans x5), by rw [wipeE_snd, f5, w4, ww], ?_, by rw [wipeE_fst]; exact hI5⟩
        have S6 : StOk X.K B F5 (upd H5 L (.lst (xs ++ [y]))) E5 (T1 ++ ((.own (acc ++ [d']), .ref L) :: T)) := by
          have S5 := S5.pop
          have hlk : B.lk L = none := by
            cases e : B.lk L with
            | none => rfl
            | some ob =>
              obtain ⟨kvs, hk⟩ := S5.lkd L ob e
              rw [h3] at hk; cases hk
          refine ⟨fun a u ha => ?_, S5.sup, S5.new, fun a u ha hm => ?_, fun a ha => ?_, S5.lkd, fun z hz => ?_, fun z hz => ?_, ?_⟩
          · have hne : a ≠ L := fun e => by subst e; rw [h3] at ha; cases ha
            have := S5.le a u ha
            unfold At at this ⊢
            cases e : B.lk a with
            | none => rw [e] at this; exact (upd_ne hne).trans this
            | some ob => rw [e] at this; exact (upd_ne hne).trans this
          · have hne : a ≠ L := fun e => by subst e; rw [h4] at ha; cases ha
            rcases S5.keep a u ha hm with ⟨e, h⟩ | ⟨e, ob, e2, h⟩
            · exact .inl ⟨e, (upd_ne hne).trans h⟩
            · exact .inr ⟨e, ob, e2, (upd_ne hne).trans h⟩
          · by_cases e : a = L
            · subst e; exact ⟨_, upd_same⟩
            · obtain ⟨w, hw⟩ := S5.mus a ha
              exact ⟨w, (upd_ne e).trans hw⟩
          · exact (S5.entE z hz).mono (Ext.refl _) fun q hq => ⟨upd_ne fun e2 => hdis.1 (e2 ▸ List.mem_flatMap.mpr ⟨z, hz, hq⟩), (S5.ownE_ok (List.mem_flatMap.mpr ⟨z, hz, hq⟩)).2⟩
          · have hz' : z = (R.own (acc ++ [d']), V.ref L) ∨ z ∈ T1 ++ T := by
              simp only [List.mem_append, List.mem_cons] at hz ⊢
              rcases hz with h | h | h
              · exact .inr (.inl h)
              · exact .inl h
              · exact .inr (.inr h)
            rcases hz' with rfl | hz'
            · exact .inl ⟨L, rfl, ⟨_, upd_same, Reps.append h2 (Reps.cons hy Reps.nil), h3⟩, h4⟩
            · have hm : z ∈ T1 ++ ((R.own acc, V.ref L) :: T) := by
                simp only [List.mem_append, List.mem_cons] at hz' ⊢
                rcases hz' with h | h
                · exact .inl h
                · exact .inr (.inr h)
              exact (S5.entT z hm).mono (Ext.refl _) fun q hq => ⟨upd_ne fun e2 => hdis.2 (e2 ▸ List.mem_flatMap.mpr ⟨z, hz', hq⟩), (S5.ownT_ok (List.mem_flatMap.mpr ⟨z, hm, hq⟩)).2⟩
          · have hd := S5.dis
            rw [List.flatMap_append, List.flatMap_cons] at hd ⊢
            exact hd
        refine S6.wipe fun j hj z hz => ?_
        simp only [List.mem_append, List.mem_cons] at hz
        rcases hz with h | h | h
        · exact hnl j hj z (List.mem_append_left _ h)
        · subst h; intro z; cases z
        · exact hnl j hj z (List.mem_append_right _ h)
      cases cond with
      | none =>
        obtain ⟨e3, d', hel, hI3⟩ := W'
        simp only [ttOf, tYes, if_true]
        intro s Hb C cl fp
        refine hel s Hb C cl fp B F3 H' E4 _ _ f1 S4 fun y F5 H5 E5 x5 f5 g5 S5 => ?_
        exact app x5 g5 S5 (by rw [f5]; exact hI3)
      | some c =>
        obtain ⟨e2', b, htest, hf, ht⟩ := W'
        intro s Hb C cl fp
        refine htest s Hb C cl fp B F3 H' E4 _ _ f1 S4 fun F5 H5 E5 x5 f5 g5 S5 => ?_
        cases hb : b with
        | false =>
          rw [if_neg Bool.false_ne_true]
          exact fin x5 g5 S5 (by rw [f5]; exact hf hb)
        | true =>
          rw [if_pos rfl]
          obtain ⟨e3, d', hel, hI3⟩ := ht hb
          rw [← g5]
          intro s Hb C cl fp
          refine hel s Hb C cl fp B F5 H5 E5 _ _ f5 S5 fun y F6 H6 E6 x6 f6 g6 S6 => ?_
          exact app (x5.trans x6) (g6.trans g5) S6 (by rw [f6]; exact hI3)
    · have e : i = ds.length := by omega
      subst e
      obtain ⟨h1, h2⟩ := hd _ _ hI
      refine .inl ⟨WJ.stop F2 H2 E2 _ x2 S2, ?_⟩
      have S3 : StOk X.K B F2 H2 (backE E2 (E.map (·.2)) vs) (T1 ++ ((.own acc, .ref L) :: T)) := S2.back hnl2
      have := k (.ref L) F2 H2 _ (x1.trans x2) (by rw [backE_fst]; exact h1) (backE_snd es2) (by rw [← h2]; exact S3.drop)
      exact this
theorem ev_lc {tg elt iter : Expr} {cond : Option Expr} {scope : Scope} {own : List (Str × Nat)} {ds : List D} (I : Nat → List R → List D → Prop) {out : List D} {es' : List R}
    (hi : IV X es tg iter es1 ds) (hown : ∀ i ∈ own.map (·.2), ∀ r, es1[i]? = some r → r.isOwn = false) (h0 : I 0 (wipeR es1 (own.map (·.2))) []) (W : Turns X scope (own.map (·.2)) tg elt cond ds I) (hd : ∀ e acc, I ds.length e acc → wipeR e (own.map (·.2)) = es' ∧ acc = out)
    (hc : X.calm = true) (hN : X.N.Nodup) (ok : BlkOk X.N X.env.scope scope own) (hs : ∀ x, foldedSetIterable iter X.env x = pure x) : EV X es (.ListComp elt [⟨tg, iter, ifsOf cond, 0⟩] scope pos) es' (.own out) := fun B F H E T Q hE S k =>
  of_pe (pe_lc (wi := wI X tg iter) (g := bG X scope tg) (tt := ttOf X scope cond) (te := bE X scope elt) hc hN pi_w ok (fun s H C cl fp => ⟨fun pins s' σ H v u Q I r h => h s _ C cl fp pins s' u I r⟩)
    (fun s H C cl fp => by
      cases cond with
      | none => exact pts_nil
      | some c => exact pts_one ⟨fun pins s' σ H Q I h => h s _ C cl fp pins s' I⟩)
    (fun s H C cl fp => ⟨fun pins s' σ H Q I h => h s _ C cl fp pins s' I⟩) hs) (lc_go hi hown h0 W hd hE S k)
theorem s_setLc {tg elt iter : Expr} {cond : Option Expr} {scope : Scope} {own : List (Str × Nat)} {ds : List D} (I : Nat → List R → List D → Prop) {out : List D} {es' : List R} {i : Nat} {y : Str} {py spos : Pos} {P : Post}
    (hi : IV X es tg iter es1 ds) (hown : ∀ i ∈ own.map (·.2), ∀ r, es1[i]? = some r → r.isOwn = false) (h0 : I 0 (wipeR es1 (own.map (·.2))) []) (W : Turns X scope (own.map (·.2)) tg elt cond ds I) (hd : ∀ e acc, I ds.length e acc → wipeR e (own.map (·.2)) = es' ∧ acc = out)
    (k : P.nx (es'.set i (.own out)))
    (hc : X.calm = true) (hN : X.N.Nodup) (hy : X.N[i]? = some y) (hyl : X.env.scope.names.lookup y = some .local) (hsw : swapsWith (.ListComp elt [⟨tg, iter, ifsOf cond, 0⟩] scope pos) (some (.Name y py)) spos.line X.env = pure true)
    (ok : BlkOk X.N X.env.scope scope own) (hs : ∀ x, foldedSetIterable iter X.env x = pure x) : S1 X es (.Assign [.Name y py] (.ListComp elt [⟨tg, iter, ifsOf cond, 0⟩] scope pos) spos) P := fun B F H E T D hE hT S A =>
  of_ps (ps_setLc (wi := wI X tg iter) (g := bG X scope tg) (tt := ttOf X scope cond) (te := bE X scope elt) hc hN hy hyl hsw pi_w ok (fun s H C cl fp => ⟨fun pins s' σ H v u Q I r h => h s _ C cl fp pins s' u I r⟩)
    (fun s H C cl fp => by
      cases cond with
      | none => exact pts_nil
      | some c => exact pts_one ⟨fun pins s' σ H Q I h => h s _ C cl fp pins s' I⟩)
    (fun s H C cl fp => ⟨fun pins s' σ H Q I h => h s _ C cl fp pins s' I⟩) hs) (by
    show tLc _ _ _ _ _ _ _ _
    refine lc_go hi hown h0 W hd hE S fun v F' H' E' x e1 e2 S' => ?_
    have := A.nx F' H' _ x (S'.setS rfl hT (i := i)) (by rw [List.map_set, e1]; exact k)
    rw [List.map_set, e2] at this
    exact this)
end
end DL

set_option maxRecDepth 100000
set_option maxHeartbeats 1000000
/-! The data layer: calls of defs, the def's own theorem. -/
namespace DL
open PySem L2
open PyProof.Rows hiding St

def R.res : R → Bool
  | .imm _ => true
  | .own _ => true
  | .ownD _ => true
  | _ => false
abbrev entB (H Fs : Hp) (mu : List Addr) (lk : Addr → Option Obj) : Bas := ⟨H, Fs, mu, lk, lk⟩
/-- a def that changes nothing: S tells the results of the arguments -/
def spP (K : PySem.W.Frag) (S : List D → R → Prop) : Sp := fun vs H Q _ => ∃ (Fs : Hp) (lk : Addr → Option Obj) (ds : List D) (r : R), StOk K (entB H Fs [] lk) Fs H [] [] ∧ Reps K Fs ds vs ∧ S ds r ∧ r.res = true ∧
  ∀ v F' H', Ext Fs F' → StOk K (entB H Fs [] lk) F' H' [] [(r, v)] → Q v H'
/-- a def that changes the list that is handed in first -/
def spB (K : PySem.W.Frag) (S : List D → List D → R → List D → Prop) : Sp := fun vs H Q _ => ∃ (Fs : Hp) (lk : Addr → Option Obj) (pb : Addr) (ws : List V) (bs ds : List D) (r : R) (bs' : List D), vs = .ref pb :: ws ∧ StOk K (entB H Fs [pb] lk) Fs H [(.box bs, some (.ref pb))] [] ∧ Reps K Fs ds ws ∧ S bs ds r bs' ∧ r.res = true ∧
  ∀ v F' H', Ext Fs F' → StOk K (entB H Fs [pb] lk) F' H' [(.box bs', some (.ref pb))] [(r, v)] → Q v H'
section
variable {K : PySem.W.Frag} {B : Bas} {F H F' H' : Hp} {E : EL} {T : TL} {r : R} {u : V}
/-- at a call -/
theorem StOk.enter (S : StOk K B F H E T) : StOk K (entB H F [] B.lk) F H [] [] where
  le := S.le
  sup := Ext.refl _
  new := fun a o h => .inl h
  keep := fun a o h _ => .inl ⟨rfl, h⟩
  mus := fun a h => by simp at h
  lkd := S.lkd
  entE := fun x h => by simp at h
  entT := fun x h => by simp at h
  dis := by simp
theorem Kept.same {lk : Addr → Option Obj} {H0 Fs H' : Hp} {mu : List Addr} {a : Addr} {o : HO} (h : Kept (entB H0 Fs mu lk) H' a o) : H' a = some o := by
  rcases h with h | ⟨e, ob, e2, _⟩
  · exact h.2
  · have e : lk a = none := e
    have e2 : lk a = some ob := e2
    rw [e] at e2; cases e2
theorem EntO.res_ok {lk : Addr → Option Obj} {H0 Fs : Hp} {mu : List Addr} (h : EntO K (entB H0 Fs mu lk) F' H' r u) (hr : r.res = true) (hf : ∀ p, H0 p = none → B.He p = none) : EntO K B F' H' r u ∧ ∀ p ∈ ownA r u, H0 p = none := by
  cases r with
  | any => cases hr
  | loc j => cases hr
  | box ds => cases hr
  | imm d => exact ⟨h, fun p hp => by simp [ownA, R.isOwn] at hp⟩
  | own ds =>
    obtain ⟨p, rfl, h1, h2⟩ := h
    exact ⟨⟨p, rfl, h1, hf p h2⟩, fun q hq => by obtain ⟨_, e⟩ := ownA_mem.mp hq; cases e; exact h2⟩
  | ownD ds =>
    obtain ⟨p, rfl, h1, h2⟩ := h
    exact ⟨⟨p, rfl, h1, hf p h2⟩, fun q hq => by obtain ⟨_, e⟩ := ownA_mem.mp hq; cases e; exact h2⟩
theorem R.res_noLoc (h : r.res = true) : r.noLoc = true := by cases r <;> first | rfl | cases h
/-- behind a call that changes nothing -/
theorem StOk.back0 (S : StOk K B F H E T) (S' : StOk K (entB H F [] B.lk) F' H' [] [(r, u)]) (x : Ext F F') (hr : r.res = true) : StOk K B F' H' E ((r, u) :: T) := by
  have hH : ∀ a o, H a = some o → H' a = some o := fun a o h => (S'.keep a o h (by simp)).same
  have hO := (S'.entT _ List.mem_cons_self).noloc (R.res_noLoc hr)
  obtain ⟨hO1, hO2⟩ := hO.res_ok (B := B) hr fun p hp => (S.free hp).2.1
  have hown : ∀ p, ((∃ o, H p = some o) ∧ F p = none) → H' p = H p ∧ F' p = none := fun p ⟨⟨o, ho⟩, hF⟩ => by
    refine ⟨by rw [ho]; exact hH p o ho, ?_⟩
    cases e : F' p with
    | none => rfl
    | some w =>
      rcases S'.new p w e with h | h
      · have h : F p = some w := h
        rw [hF] at h; cases h
      · have h : H p = none := h
        rw [ho] at h; cases h
  have S1 : StOk K B F' H' E T := by
    refine ⟨S'.le, S.sup.trans x, fun a o h => ?_, fun a o h hm => ?_, fun a hm => ?_, fun a ob h => ?_, fun y hy => ?_, fun y hy => ?_, S.dis⟩
    · rcases S'.new a o h with h | h
      · exact S.new a o h
      · exact .inr (S.free h).2.1
    · rcases S.keep a o h hm with ⟨e, h⟩ | ⟨e, ob, e2, h⟩
      · exact .inl ⟨e, hH _ _ h⟩
      · exact .inr ⟨e, ob, e2, hH _ _ h⟩
    · obtain ⟨o, ho⟩ := S.mus a hm
      exact ⟨o, hH _ _ ho⟩
    · obtain ⟨kvs, hk⟩ := S.lkd a ob h
      exact ⟨kvs, x _ _ hk⟩
    · exact (S.entE y hy).mono x fun q hq => hown q (S.ownE_ok (List.mem_flatMap.mpr ⟨y, hy, hq⟩))
    · exact (S.entT y hy).mono x fun q hq => hown q (S.ownT_ok (List.mem_flatMap.mpr ⟨y, hy, hq⟩))
  refine S1.push (.inl hO1) fun p hp => ?_
  have := S.free (hO2 p hp)
  exact ⟨this.2.2.1, this.2.2.2.1⟩
/-- a list that is handed in to be changed -/
def IsBx (r : R) (bs : List D) : Prop := r = .own bs ∨ r = .box bs
def R.bx : R → List D → R
  | .own _, bs => .own bs
  | .box _, bs => .box bs
  | r, _ => r
theorem StOk.enterB {j : Nat} {bs : List D} {pb : Addr} (S : StOk K B F H E T) (h : E[j]? = some (r, some (.ref pb))) (hb : IsBx r bs) : StOk K (entB H F [pb] B.lk) F H [(.box bs, some (.ref pb))] [] := by
  have hO : OwnL K F H bs pb := by
    rcases S.entE _ (List.mem_of_getElem? h) with q | ⟨u, e, q⟩
    · have q : r = .any := q
      subst q; rcases hb with e | e <;> cases e
    · cases e
      rcases hb with rfl | rfl
      · obtain ⟨p, e, h1, _⟩ := q; cases e; exact h1
      · obtain ⟨p, e, h1, _⟩ := q; cases e; exact h1
  refine ⟨S.le, Ext.refl _, fun a o h => .inl h, fun a o h _ => .inl ⟨rfl, h⟩, fun a h => ?_, S.lkd, fun x hx => ?_, fun x h => by simp at h, ?_⟩
  · simp at h; subst h
    obtain ⟨xs, h1, _⟩ := hO
    exact ⟨_, h1⟩
  · simp at hx; subst hx
    exact .inr ⟨_, rfl, pb, rfl, hO, by simp⟩
  · simp [ownE, ownA, R.isOwn]
theorem StOk.back1 {j : Nat} {r0 : R} {bs bs' : List D} {pb : Addr} (S : StOk K B F H E T) (h : E[j]? = some (r0, some (.ref pb))) (hb : IsBx r0 bs) (S' : StOk K (entB H F [pb] B.lk) F' H' [(.box bs', some (.ref pb))] [(r, u)]) (x : Ext F F') (hr : r.res = true) :
    StOk K B F' H' (E.set j (r0.bx bs', some (.ref pb))) ((r, u) :: T) := by
  have hH : ∀ a o, a ≠ pb → H a = some o → H' a = some o := fun a o hne h => (S'.keep a o h (by simpa using hne)).same
  have hO := (S'.entT _ List.mem_cons_self).noloc (R.res_noLoc hr)
  obtain ⟨hO1, hO2⟩ := hO.res_ok (B := B) hr fun p hp => (S.free hp).2.1
  have hro : r0.isOwn = true := by rcases hb with rfl | rfl <;> rfl
  have hrb : (r0.bx bs').isOwn = true := by rcases hb with rfl | rfl <;> rfl
  have hE0 : EntO K B F H r0 (.ref pb) := by
    rcases S.entE _ (List.mem_of_getElem? h) with q | ⟨w, e, q⟩
    · have q : r0 = .any := q
      subst q; cases hro
    · cases e; exact q
  obtain ⟨pb', e', ⟨opb, hpb⟩, hFpb, hB⟩ := hE0.own_ok hro
  cases e'
  have hOb : OwnL K F' H' bs' pb := by
    rcases S'.entE _ List.mem_cons_self with q | ⟨w, e, q⟩
    · cases q
    · cases e
      obtain ⟨p, e, h1, _⟩ := q; cases e; exact h1
  have hown : ∀ p, p ≠ pb → ((∃ o, H p = some o) ∧ F p = none) → H' p = H p ∧ F' p = none := fun p hne ⟨⟨o, ho⟩, hF⟩ => by
    refine ⟨by rw [ho]; exact hH p o hne ho, ?_⟩
    cases e : F' p with
    | none => rfl
    | some w =>
      rcases S'.new p w e with h | h
      · have h : F p = some w := h
        rw [hF] at h; cases h
      · have h : H p = none := h
        rw [ho] at h; cases h
  obtain ⟨n1, n2⟩ := S.nodup_slot h (p := pb) (ownA_mem.mpr ⟨hro, rfl⟩)
  have hjl : j < E.length := (List.getElem?_eq_some_iff.mp h).1
  have hOB : EntO K B F' H' (r0.bx bs') (.ref pb) := by
    rcases hb with rfl | rfl
    · obtain ⟨p, e, _, h2⟩ := hE0; cases e; exact ⟨pb, rfl, hOb, h2⟩
    · obtain ⟨p, e, _, h2⟩ := hE0; cases e; exact ⟨pb, rfl, hOb, h2⟩
  have S1 : StOk K B F' H' (E.set j (r0.bx bs', some (.ref pb))) T := by
    refine ⟨S'.le, S.sup.trans x, fun a o h => ?_, fun a o hq hm => ?_, fun a hm => ?_, fun a ob h => ?_, fun y hy => ?_, fun y hy => ?_, ?_⟩
    · rcases S'.new a o h with h | h
      · exact S.new a o h
      · exact .inr (S.free h).2.1
    · have hne : a ≠ pb := fun e => by
        subst e
        rcases hB with hB | hB
        · rw [hB] at hq; cases hq
        · exact hm hB
      rcases S.keep a o hq hm with ⟨e, h⟩ | ⟨e, ob, e2, h⟩
      · exact .inl ⟨e, hH _ _ hne h⟩
      · exact .inr ⟨e, ob, e2, hH _ _ hne h⟩
    · obtain ⟨o, ho⟩ := S.mus a hm
      by_cases e : a = pb
      · subst e
        obtain ⟨xs, h1, _⟩ := hOb
        exact ⟨_, h1⟩
      · exact ⟨o, hH _ _ e ho⟩
    · obtain ⟨kvs, hk⟩ := S.lkd a ob h
      exact ⟨kvs, x _ _ hk⟩
    · obtain ⟨k, hk⟩ := List.mem_iff_getElem?.mp hy
      by_cases e : j = k
      · subst e
        rw [List.getElem?_set_self hjl] at hk
        cases hk
        exact .inr ⟨_, rfl, hOB⟩
      · rw [List.getElem?_set_ne e] at hk
        have hy := List.mem_of_getElem? hk
        exact (S.entE y hy).mono x fun q hq => hown q (fun e2 => n1 k y (Ne.symm e) hk (e2 ▸ hq)) (S.ownE_ok (List.mem_flatMap.mpr ⟨y, hy, hq⟩))
    · rcases S.entT y hy with h' | ⟨k, rk, e0, h', ho⟩
      · exact .inl (h'.mono x fun q hq => hown q (fun e2 => n2 (e2 ▸ List.mem_flatMap.mpr ⟨y, hy, hq⟩)) (S.ownT_ok (List.mem_flatMap.mpr ⟨y, hy, hq⟩)))
      · by_cases e : j = k
        · subst e
          rw [h] at h'
          have e5 : V.ref pb = y.2 := by
            have := Option.some.inj h'
            exact Option.some.inj (congrArg Prod.snd this)
          exact .inr ⟨j, r0.bx bs', e0, by rw [List.getElem?_set_self hjl, e5], hrb⟩
        · exact .inr ⟨k, rk, e0, by rw [List.getElem?_set_ne e]; exact h', ho⟩
    · have hd := S.dis
      obtain ⟨a, c, e1, e2, e3⟩ := split_at h
      rw [e3, List.flatMap_append, List.flatMap_cons]
      rw [e1, List.flatMap_append, List.flatMap_cons] at hd
      have e4 : ownE (r0.bx bs', some (V.ref pb)) = ownE (r0, some (V.ref pb)) := by
        show ownA (r0.bx bs') (.ref pb) = ownA r0 (.ref pb)
        unfold ownA
        rw [hro, hrb]
      rw [e4]; exact hd
  refine S1.push (.inl hO1) fun p hp => ?_
  have hf := S.free (hO2 p hp)
  refine ⟨fun hm => ?_, hf.2.2.2.1⟩
  obtain ⟨y, hy, hq⟩ := List.mem_flatMap.mp hm
  rcases List.mem_or_eq_of_mem_set hy with hy | rfl
  · exact hf.2.2.1 (List.mem_flatMap.mpr ⟨y, hy, hq⟩)
  · have hq : p ∈ ownA (r0.bx bs') (.ref pb) := hq
    obtain ⟨_, e⟩ := ownA_mem.mp hq
    cases e
    have := hO2 pb hp
    rw [hpb] at this; cases this
end

section
variable {X : Cx} {es es1 es2 es3 : List R} {e a b c : Expr} {r ra rb : R} {pos : Pos} {k : Nat} {f : Addr} {fd : FuncData} {ps : List Str} {x : Str} {p : Pos} {as : List Expr} {rs : List R} {ds : List D}
theorem ev_call {S : List D → R → Prop} (G : FnOk X.prog X.w X.K X.mg X.base CX0 k f fd ps (spP X.K S)) (hr : Room k X.A) (hm : X.mg x = some (.ref f)) (hk : PySem.W.keepIn X.K (.ref f) = true) (hb : Binds X.K fd ps [])
    (ha : AV X es (a :: as) es1 rs) (hd : rs.map immD = ds.map some) (hS : S ds r) (hres : r.res = true) (hg : Gl X x)
    (hdb : (x == ("__debug__" : Str)) = false) (he : starEach (a :: as) X.env = (false, eval a X.env) :: starEach as X.env) (hpl : (backTo pos (starEach as X.env)).any (·.1) = false) :
    EV X es (.Call (.Name x p) (a :: as) [] pos) es1 r := fun B F H E T Q hE S0 kk =>
  of_pe (pe_call G hr hg hm hk hb .nil pass0 pa_w hdb he hpl) (ha B F H E T _ hE S0 fun vs F1 H1 E1 x1 e1 f1 hl S1 => by
    refine ⟨F1, B.lk, ds, r, S1.enter, ?_, hS, hres, fun v F' H' x' S' => ?_⟩
    · rw [List.append_nil]; exact reps_of hd hl S1
    · exact kk v F' H' E1 (x1.trans x') e1 f1 (S1.back0 S' x' hres).drop1)
theorem ev_call0 {S : List D → R → Prop} (G : FnOk X.prog X.w X.K X.mg X.base CX0 k f fd ps (spP X.K S)) (hr : Room k X.A) (hm : X.mg x = some (.ref f)) (hk : PySem.W.keepIn X.K (.ref f) = true) (hb : Binds X.K fd ps [])
    (hS : S [] r) (hres : r.res = true) (hg : Gl X x) (hdb : (x == ("__debug__" : Str)) = false) :
    EV X es (.Call (.Name x p) [] [] pos) es r := fun B F H E T Q hE S0 kk =>
  of_pe (pe_call0 G hr hg hm hk hb .nil pass0 hdb) (by
    refine ⟨F, B.lk, [], r, S0.enter, Reps.nil, hS, hres, fun v F' H' x' S' => ?_⟩
    exact kk v F' H' E x' hE rfl (S0.back0 S' x' hres))
theorem ev_callBx {S : List D → List D → R → List D → Prop} (G : FnOk X.prog X.w X.K X.mg X.base CX0 k f fd ps (spB X.K S)) (hr : Room k X.A) (hm : X.mg x = some (.ref f)) (hk : PySem.W.keepIn X.K (.ref f) = true) (hb : Binds X.K fd ps []) {j : Nat} {r0 : R} {bs bs' : List D}
    (ha : AV X es (a :: as) es1 (.loc j :: rs)) (hj : es1[j]? = some r0) (hbx : IsBx r0 bs) (hd : rs.map immD = ds.map some) (hS : S bs ds r bs') (hres : r.res = true) (hg : Gl X x)
    (hdb : (x == ("__debug__" : Str)) = false) (he : starEach (a :: as) X.env = (false, eval a X.env) :: starEach as X.env) (hpl : (backTo pos (starEach as X.env)).any (·.1) = false) :
    EV X es (.Call (.Name x p) (a :: as) [] pos) (es1.set j (r0.bx bs')) r := fun B F H E T Q hE S0 kk =>
  of_pe (pe_call G hr hg hm hk hb .nil pass0 pa_w hdb he hpl) (ha B F H E T _ hE S0 fun vs F1 H1 E1 x1 e1 f1 hl S1 => by
    cases vs with
    | nil => simp at hl
    | cons v vs =>
      rw [List.zip_cons_cons, List.reverse_cons, List.append_assoc] at S1
      obtain ⟨w, hw⟩ := get_of_map e1 hj
      have hv : ∃ pb, v = .ref pb ∧ w = some (.ref pb) := by
        rcases S1.entT (.loc j, v) (by simp) with q | ⟨j', r', e, q, ho⟩
        · exact q.elim
        · cases e
          rw [hw] at q
          have q := Option.some.inj q
          have e2 : w = some v := congrArg Prod.snd q
          rcases S1.entE _ (List.mem_of_getElem? hw) with q' | ⟨u, e, q'⟩
          · have q' : r0 = .any := q'
            subst q'; rcases hbx with e | e <;> cases e
          · have e : w = some u := e
            rcases hbx with rfl | rfl
            · obtain ⟨pb, e3, _⟩ := q'
              have e3 : u = .ref pb := e3
              subst e3
              subst e
              exact ⟨pb, (Option.some.inj e2).symm, e⟩
            · obtain ⟨pb, e3, _⟩ := q'
              have e3 : u = .ref pb := e3
              subst e3
              subst e
              exact ⟨pb, (Option.some.inj e2).symm, e⟩
      obtain ⟨pb, rfl, rfl⟩ := hv
      refine ⟨F1, B.lk, pb, vs, bs, ds, r, bs', by rw [List.append_nil], S1.enterB hw hbx, reps_of (T := [(R.loc j, V.ref pb)] ++ T) hd (by simpa using hl) S1, hS, hres, fun v F' H' x' S' => ?_⟩
      have S2 := S1.back1 hw hbx S' x' hres
      refine kk v F' H' _ (x1.trans x') (by rw [List.map_set, e1]) ?_ (S2.sub (.cons_cons _ ((List.sublist_append_right _ _).trans (List.sublist_append_right _ _))))
      rw [List.map_set, ← f1]
      apply List.ext_getElem?
      intro i
      by_cases e : j = i
      · subst e
        rw [List.getElem?_set_self (by simpa using (List.getElem?_eq_some_iff.mp hw).1), List.getElem?_map, hw]; rfl
      · rw [List.getElem?_set_ne e])
end

/-! ### a def's own theorem -/
section
variable {P : Program} {w : World} {K : PySem.W.Frag} {mg : Str → Option Value} {base : Heap} {k : Nat} {f : Addr} {fd : FuncData} {ps N : List Str} {x qual : Str} {st : Stmt}
def slots (N : List Str) (rs : List R) : List R := rs ++ List.replicate (N.length - rs.length) .any
theorem StOk.slots {B : Bas} {F H : Hp} {E : EL} {T : TL} (S : StOk K B F H E T) {n : Nat} : StOk K B F H (E ++ List.replicate n (.any, none)) T := by
  refine ⟨S.le, S.sup, S.new, S.keep, S.mus, S.lkd, fun y hy => ?_, fun y hy => ?_, ?_⟩
  · rcases List.mem_append.mp hy with hy | hy
    · exact S.entE y hy
    · rw [List.mem_replicate] at hy
      exact .inl (by rw [hy.2])
  · rcases S.entT y hy with h | ⟨j, r, e, h, ho⟩
    · exact .inl h
    · exact .inr ⟨j, r, e, by rw [List.getElem?_append_left (List.getElem?_eq_some_iff.mp h).1]; exact h, ho⟩
  · have : (List.replicate n ((R.any, none) : R × Option V)).flatMap ownE = [] := by
      induction n with
      | zero => rfl
      | succ n ih => rw [List.replicate_succ, List.flatMap_cons, ih]; rfl
    rw [List.flatMap_append, this, List.append_nil]
    exact S.dis
theorem StOk.args {B : Bas} {F H : Hp} {E : EL} : ∀ {ds : List D} {vs : List V}, StOk K B F H E [] → Reps K F ds vs → StOk K B F H (E ++ (ds.map R.imm).zip (vs.map some)) [] := by
  intro ds vs S hr
  refine ⟨S.le, S.sup, S.new, S.keep, S.mus, S.lkd, fun y hy => ?_, fun y hy => by simp at hy, ?_⟩
  · rcases List.mem_append.mp hy with hy | hy
    · exact S.entE y hy
    · obtain ⟨i, hi⟩ := List.mem_iff_getElem?.mp hy
      rw [List.getElem?_zip_eq_some] at hi
      obtain ⟨h1, h2⟩ := hi
      rw [List.getElem?_map] at h1 h2
      cases e : ds[i]? with
      | none => rw [e] at h1; cases h1
      | some d =>
        obtain ⟨v, hv, hrep⟩ := hr.get e
        rw [e] at h1
        rw [hv] at h2
        exact .inr ⟨v, (Option.some.inj h2).symm, by rw [← Option.some.inj h1]; exact hrep⟩
  · have : ∀ (ds : List D) (vs : List V), ((ds.map R.imm).zip (vs.map some)).flatMap ownE = [] := by
      intro ds
      induction ds with
      | nil => intro vs; rfl
      | cons d ds ih =>
        intro vs
        cases vs with
        | nil => rfl
        | cons v vs =>
          rw [List.map_cons, List.map_cons, List.zip_cons_cons, List.flatMap_cons, ih]; rfl
    rw [List.flatMap_append, this, List.append_nil]
    exact S.dis
theorem StOk.dropE {B : Bas} {F H : Hp} {E E' : EL} {T : TL} (S : StOk K B F H E T) (hT : NoLoc T) (h : E'.Sublist E) : StOk K B F H E' T :=
  ⟨S.le, S.sup, S.new, S.keep, S.mus, S.lkd, fun y hy => S.entE y (h.subset hy), fun y hy => .inl ((S.entT y hy).noloc (hT y hy)), S.dis.sublist ((flatMap_sub _ h).append (List.Sublist.refl _))⟩
theorem zip_args (ds : List D) (vs : List V) (h : ds.length = vs.length) : ((ds.map R.imm).zip (vs.map some)).map (·.1) = ds.map R.imm ∧ ((ds.map R.imm).zip (vs.map some)).map (·.2) = vs.map some := by
  constructor
  · rw [List.map_fst_zip]; simp [h]
  · rw [List.map_snd_zip]; simp [h]
/-- THE RULE for a def that changes nothing -/
theorem fn_p {S : List D → R → Prop} (Fu : Fun K x qual st f fd) (Sc : FnScope N ps (defScope st)) (hlen : ∀ ds r, S ds r → ds.length = ps.length)
    (hbody : ∀ (cdv : Value) (A : Around) (outer : List Env) (s : Shared) (H : Hp) (E : XK), Room k (A.deeper (envOfC qual (defScope st) s.heap.objs.size f cdv)) → ∀ ds r, S ds r → r.res = true →
      SV (cxOf CX0 P w K mg base N qual (defScope st) f cdv A outer s H E).nox (slots N (ds.map R.imm)) (defBody st) { nx := fun _ => r = .imm .non, rt := fun _ r' => r' = r }) :
    FnOk P w K mg base CX0 (k + 1) f fd ps (spP K S) := by
  refine Fu.ok Sc (fun vs H Q E h => ?_) (fun cdv A outer s H vs Q E hr h => ?_)
  · obtain ⟨Fs, lk, ds, r, _, hR, hS, _⟩ := h
    rw [← hR.len]; exact hlen ds r hS
  · obtain ⟨Fs, lk, ds, r, S0, hR, hS, hres, k⟩ := h
    have hl := hR.len
    have hbd := hbody cdv A outer s H E hr ds r hS hres
    have S1 := (S0.args hR).slots (n := N.length - vs.length)
    refine ⟨_, pss_w, ?_⟩
    obtain ⟨z1, z2⟩ := zip_args ds vs hl
    have := hbd (entB H Fs [] lk) Fs H _ [] { nx := fun _ H' => Q .non H', rt := Q } (by
      rw [List.map_append, List.nil_append, z1, List.map_replicate]
      show _ = slots N (ds.map R.imm)
      unfold DL.slots
      rw [List.length_map, hl]) (fun x hx => by simp at hx) S1 ⟨fun F' H' E' x' S' q => ?_, fun v r' F' H' E' x' S' q => ?_, fun _ _ _ _ _ q => q.elim, fun _ _ _ _ _ q => q.elim⟩
    · rw [List.map_append, List.nil_append, z2, List.map_replicate] at this
      exact this
    · have q : r = .imm .non := q
      subst q
      exact k .non F' H' x' ((S'.imm (Rep.non_iff.mpr rfl)).dropE (fun y hy => by simp at hy; subst hy; rfl) (List.nil_sublist _))
    · have q : r' = r := q
      subst q
      exact k v F' H' x' (S'.dropE (fun y hy => by simp at hy; subst hy; exact R.res_noLoc hres) (List.nil_sublist _))
/-- THE RULE for a def that changes the list that is handed in first -/
theorem fn_b {S : List D → List D → R → List D → Prop} (Fu : Fun K x qual st f fd) (Sc : FnScope N ps (defScope st)) (hlen : ∀ bs ds r bs', S bs ds r bs' → ds.length + 1 = ps.length)
    (hbody : ∀ (cdv : Value) (A : Around) (outer : List Env) (s : Shared) (H : Hp) (E : XK), Room k (A.deeper (envOfC qual (defScope st) s.heap.objs.size f cdv)) → ∀ bs ds r bs', S bs ds r bs' → r.res = true →
      SV (cxOf CX0 P w K mg base N qual (defScope st) f cdv A outer s H E).nox (slots N (.box bs :: ds.map R.imm)) (defBody st) { nx := fun e => r = .imm .non ∧ e[0]? = some (.box bs'), rt := fun e r' => r' = r ∧ e[0]? = some (.box bs') }) :
    FnOk P w K mg base CX0 (k + 1) f fd ps (spB K S) := by
  refine Fu.ok Sc (fun vs H Q E h => ?_) (fun cdv A outer s H vs Q E hr h => ?_)
  · obtain ⟨Fs, lk, pb, ws, bs, ds, r, bs', rfl, _, hR, hS, _⟩ := h
    rw [List.length_cons, ← hR.len]; exact hlen bs ds r bs' hS
  · obtain ⟨Fs, lk, pb, ws, bs, ds, r, bs', rfl, S0, hR, hS, hres, k⟩ := h
    have hl := hR.len
    have hbd := hbody cdv A outer s H E hr bs ds r bs' hS hres
    have S1 := (S0.args hR).slots (n := N.length - (ws.length + 1))
    refine ⟨_, pss_w, ?_⟩
    obtain ⟨z1, z2⟩ := zip_args ds ws hl
    -- the first slot still holds the list that was handed in
    have fin : ∀ {v : V} {r' : R} {F' H' : Hp} {E' : EL}, Ext Fs F' → StOk K (entB H Fs [pb] lk) F' H' E' [(r', v)] → r'.res = true → (E'.map (·.1))[0]? = some (.box bs') → StOk K (entB H Fs [pb] lk) F' H' [(.box bs', some (.ref pb))] [(r', v)] := fun {v r' F' H' E'} x' S' hres' e0 => by
      obtain ⟨u, hu⟩ := get_of_map rfl e0
      have hu' : u = some (.ref pb) := by
        rcases S'.entE _ (List.mem_of_getElem? hu) with q | ⟨y, e, q⟩
        · cases q
        · obtain ⟨p, e2, _, h4⟩ := q
          have e : u = some y := e
          have e2 : y = .ref p := e2
          simp at h4
          rw [e, e2, h4]
      subst hu'
      refine S'.dropE (fun y hy => by simp at hy; subst hy; exact R.res_noLoc hres') ?_
      obtain ⟨a, c, e1, e2, _⟩ := split_at hu
      rw [e1]
      have : a = [] := List.eq_nil_of_length_eq_zero e2
      subst this
      exact List.Sublist.cons_cons _ (List.nil_sublist _)
    have := hbd (entB H Fs [pb] lk) Fs H _ [] { nx := fun _ H' => Q .non H', rt := Q } (by
      rw [List.map_append, List.map_append, z1, List.map_replicate]
      show _ = slots N (R.box bs :: ds.map R.imm)
      unfold DL.slots
      rw [List.length_cons, List.length_map, hl]; rfl) (fun x hx => by simp at hx) S1 ⟨fun F' H' E' x' S' q => ?_, fun v r' F' H' E' x' S' q => ?_, fun _ _ _ _ _ q => q.elim, fun _ _ _ _ _ q => q.elim⟩
    · rw [List.map_append, List.map_append, z2, List.map_replicate] at this
      exact this
    · obtain ⟨q, q2⟩ := q
      subst q
      exact k .non F' H' x' (fin x' (S'.imm (Rep.non_iff.mpr rfl)) rfl q2)
    · obtain ⟨q, q2⟩ := q
      subst q
      exact k v F' H' x' (fin x' S' hres q2)
end
end DL

set_option maxRecDepth 100000
set_option maxHeartbeats 1000000
/-! The data layer: operations by values, short forms. -/
namespace DL
open PySem L2
open PyProof.Rows hiding St

/-! ### operations -/
section
variable {X : Cx} {es : List R}
/-- two temporaries as data, a result that is a part of F -/
theorem o2_imm {q : R2} {da db dr : D} (h : ∀ F H x y Q, Rep X.K F da x → Rep X.K F db y → (∀ v, Rep X.K F dr v → Q v H) → q x y H Q) : O2 X es q (.imm da) (.imm db) (.imm dr) :=
  fun B F H E T x y Q hE S k => h F H x y Q ((S.entT (.imm da, x) (by simp)).noloc rfl) ((S.entT (.imm db, y) (by simp)).noloc rfl) fun v hv => k v F H (Ext.refl F) (S.imm hv)
theorem o2_I {C : Int → Int → Prop} {g : Int → Int → V} {i j : Int} {d : D} (hC : C i j) (hd : ∀ F, Rep X.K F d (g i j)) : O2 X es (rI C g) (.imm (.int i)) (.imm (.int j)) (.imm d) :=
  o2_imm fun F H x y Q hx hy k => ⟨i, j, Rep.int_iff.mp hx, Rep.int_iff.mp hy, hC, k _ (hd F)⟩
theorem o2_I0 {g : Int → Int → V} {i j : Int} {d : D} (hd : ∀ F, Rep X.K F d (g i j)) : O2 X es (rI0 g) (.imm (.int i)) (.imm (.int j)) (.imm d) :=
  o2_imm fun F H x y Q hx hy k => ⟨i, j, Rep.int_iff.mp hx, Rep.int_iff.mp hy, k _ (hd F)⟩
/-- both temporaries read -/
theorem o2_of {q : R2} {ra rb res : R} {da db : D} (va : view es ra = some da) (vb : view es rb = some db)
    (h : ∀ (B : Bas) (F H : Hp) (E : EL) (T : TL) (x y : V) (Q : VK), StOk X.K B F H E T → Vw X.K F H da x → Vw X.K F H db y → (∀ v F' H', Ext F F' → StOk X.K B F' H' E ((res, v) :: T) → Q v H') → q x y H Q) : O2 X es q ra rb res :=
  fun B F H E T x y Q hE S k => h B F H E _ x y Q S (S.vw hE (by simp) va) (S.vw hE (by simp) vb) k
theorem o1_of {q : V → Hp → VK → Prop} {ra res : R} {da : D} (va : view es ra = some da)
    (h : ∀ (B : Bas) (F H : Hp) (E : EL) (T : TL) (x : V) (Q : VK), StOk X.K B F H E T → Vw X.K F H da x → (∀ v F' H', Ext F F' → StOk X.K B F' H' E ((res, v) :: T) → Q v H') → q x H Q) : O1 X es q ra res :=
  fun B F H E T x Q hE S k => h B F H E _ x Q S (S.vw hE (by simp) va) k
theorem on1_of {q : List V → Hp → VK → Prop} {ra res : R} {da : D} (va : view es ra = some da)
    (h : ∀ (B : Bas) (F H : Hp) (E : EL) (T : TL) (x : V) (Q : VK), StOk X.K B F H E T → Vw X.K F H da x → (∀ v F' H', Ext F F' → StOk X.K B F' H' E ((res, v) :: T) → Q v H') → q [x] H Q) : ON X es q [ra] res :=
  fun B F H E T vs Q hE hl S k => by
    match vs, hl with
    | [x], _ => exact h B F H E _ x Q S (S.vw hE (by simp) va) k
theorem on2_of {q : List V → Hp → VK → Prop} {ra rb res : R} {da db : D} (va : view es ra = some da) (vb : view es rb = some db)
    (h : ∀ (B : Bas) (F H : Hp) (E : EL) (T : TL) (x y : V) (Q : VK), StOk X.K B F H E T → Vw X.K F H da x → Vw X.K F H db y → (∀ v F' H', Ext F F' → StOk X.K B F' H' E ((res, v) :: T) → Q v H') → q [x, y] H Q) : ON X es q [ra, rb] res :=
  fun B F H E T vs Q hE hl S k => by
    match vs, hl with
    | [x, y], _ => exact h B F H E _ x y Q S (S.vw hE (by simp) va) (S.vw hE (by simp) vb) k
section
variable {K : PySem.W.Frag} {B : Bas} {F H : Hp} {E : EL} {T : TL} {v : V}
theorem Vw.int {i : Int} (h : Vw K F H (.int i) v) : v = .int i := by
  rcases h with h | ⟨_, _, e, _⟩ | ⟨_, _, e, _⟩
  · exact Rep.int_iff.mp h
  · cases e
  · cases e
theorem Vw.str {i : Str} (h : Vw K F H (.str i) v) : v = .str i := by
  rcases h with h | ⟨_, _, e, _⟩ | ⟨_, _, e, _⟩
  · exact Rep.str_iff.mp h
  · cases e
  · cases e
theorem Vw.bl {i : Bool} (h : Vw K F H (.bl i) v) : v = .bl i := by
  rcases h with h | ⟨_, _, e, _⟩ | ⟨_, _, e, _⟩
  · exact Rep.bl_iff.mp h
  · cases e
  · cases e
theorem Vw.ty {i : String} (h : Vw K F H (.ty i) v) : v = .ty i := by
  rcases h with h | ⟨_, _, e, _⟩ | ⟨_, _, e, _⟩
  · exact Rep.ty_iff.mp h
  · cases e
  · cases e
theorem Vw.non (h : Vw K F H .non v) : v = .non := by
  rcases h with h | ⟨_, _, e, _⟩ | ⟨_, _, e, _⟩
  · exact Rep.non_iff.mp h
  · cases e
  · cases e
theorem Vw.lst {ds : List D} (h : Vw K F H (.lst ds) v) (S : StOk K B F H E T) : ∃ a xs, v = .ref a ∧ H a = some (.lst xs) ∧ Reps K F ds xs := by
  rcases h with h | ⟨ds', p, e, e2, xs, h1, h2, h3⟩ | ⟨_, _, e, _⟩
  · rw [Rep] at h
    obtain ⟨a, xs, h1, h2, h3⟩ := h
    exact ⟨a, xs, h1, S.lst h2, h3⟩
  · cases e
    exact ⟨p, xs, e2, h1, h2⟩
  · cases e
theorem Vw.tup {ds : List D} (h : Vw K F H (.tup ds) v) (S : StOk K B F H E T) : ∃ a xs, v = .ref a ∧ SqT K H a xs ∧ Reps K F ds xs := by
  rcases h with h | ⟨ds', p, e, e2, xs, h1, h2, h3⟩ | ⟨_, _, e, _⟩
  · rw [Rep] at h
    obtain ⟨a, xs, h1, h2, h3⟩ := h
    exact ⟨a, xs, h1, S.sqt h2, h3⟩
  · cases e
  · cases e
theorem Vw.scr {ns : List Int} (h : Vw K F H (.scr ns) v) (S : StOk K B F H E T) : ∃ a, v = .ref a ∧ SqL K H a (ns.map V.int) := by
  rcases h with h | ⟨ds', p, e, e2, xs, h1, h2, h3⟩ | ⟨_, _, e, _⟩
  · rw [Rep] at h
    obtain ⟨a, h1, h2⟩ := h
    exact ⟨a, h1, S.sql h2⟩
  · cases e
  · cases e
theorem StOk.ret1 (S : StOk K B F H E T) {d : D} {Q : VK} (hv : Rep K F d v) (k : ∀ v F' H', Ext F F' → StOk K B F' H' E ((.imm d, v) :: T) → Q v H') : Q v H := k v F H (Ext.refl F) (S.imm hv)
end
end

section
variable {X : Cx} {es es1 es2 es3 : List R} {e a b c : Expr} {r ra rb : R} {pos : Pos} {i j : Int}
/-! ### numbers -/
theorem ev_add (ha : EV X es a es1 (.imm (.int i))) (hb : EV X es1 b es2 (.imm (.int j))) : EV X es (.BinOp a .Add b pos) es2 (.imm (.int (i + j))) := ev_op op_add (o2_I0 fun _ => Rep.int_iff.mpr rfl) ha hb
theorem ev_sub (ha : EV X es a es1 (.imm (.int i))) (hb : EV X es1 b es2 (.imm (.int j))) : EV X es (.BinOp a .Sub b pos) es2 (.imm (.int (i - j))) := ev_op op_sub (o2_I0 fun _ => Rep.int_iff.mpr rfl) ha hb
/-- one factor is small -/
def Sm (i j : Int) : Prop := (-(2 ^ 64) < i ∧ i < 2 ^ 64) ∨ (-(2 ^ 64) < j ∧ j < 2 ^ 64)
theorem ev_mul (ha : EV X es a es1 (.imm (.int i))) (hb : EV X es1 b es2 (.imm (.int j))) (h : Sm i j) : EV X es (.BinOp a .Mult b pos) es2 (.imm (.int (i * j))) := ev_op op_mul (o2_I h fun _ => Rep.int_iff.mpr rfl) ha hb
theorem ev_fdiv (ha : EV X es a es1 (.imm (.int i))) (hb : EV X es1 b es2 (.imm (.int j))) (h : j ≠ 0 ∧ j.natAbs < 1073741824) : EV X es (.BinOp a .FloorDiv b pos) es2 (.imm (.int (i.fdiv j))) := ev_op op_fdivN (o2_I h fun _ => Rep.int_iff.mpr rfl) ha hb
theorem ev_mod (ha : EV X es a es1 (.imm (.int i))) (hb : EV X es1 b es2 (.imm (.int j))) (h : j ≠ 0) : EV X es (.BinOp a .Mod b pos) es2 (.imm (.int (i.fmod j))) := ev_op op_modN (o2_I h fun _ => Rep.int_iff.mpr rfl) ha hb
theorem ev_pow (ha : EV X es a es1 (.imm (.int i))) (hb : EV X es1 b es2 (.imm (.int j))) (h : 0 ≤ j ∧ j ≤ 1000000 ∧ i.natAbs < 2 ^ 64) : EV X es (.BinOp a .Pow b pos) es2 (.imm (.int (i ^ j.toNat))) := ev_op op_pow (o2_I h fun _ => Rep.int_iff.mpr rfl) ha hb
theorem o1_neg : O1 X es (fun x H Q => ∃ i, x = V.int i ∧ Q (.int (-i)) H) (.imm (.int i)) (.imm (.int (-i))) := o1_of rfl fun B F H E T x Q S hx k => ⟨i, hx.int, S.ret1 (Rep.int_iff.mpr rfl) k⟩
theorem ev_neg (ha : EV X es a es1 (.imm (.int i))) : EV X es (.UnaryOp .USub a pos) es1 (.imm (.int (-i))) := ev_un un_neg o1_neg ha
/-! comparisons of numbers -/
section
variable (hm : behindInMarks CmpOp.Lt b = false)
theorem ev_lt (ha : EV X es a es1 (.imm (.int i))) (hb : EV X es1 b es2 (.imm (.int j))) : EV X es (.Compare a [.Lt] [b] pos) es2 (.imm (.bl (decide (i < j)))) := ev_cmp op_lt (o2_I0 fun _ => Rep.bl_iff.mpr rfl) ha hb (nomark _)
theorem tv_lt (ha : EV X es a es1 (.imm (.int i))) (hb : EV X es1 b es2 (.imm (.int j))) : TV X es (.Compare a [.Lt] [b] pos) es2 (decide (i < j)) := tv_cmp op_lt (o2_I0 fun _ => Rep.bl_iff.mpr rfl) ha hb (nomark _)
theorem ev_le (ha : EV X es a es1 (.imm (.int i))) (hb : EV X es1 b es2 (.imm (.int j))) : EV X es (.Compare a [.LtE] [b] pos) es2 (.imm (.bl (decide (i ≤ j)))) := ev_cmp op_le (o2_I0 fun _ => Rep.bl_iff.mpr rfl) ha hb (nomark _)
theorem tv_le (ha : EV X es a es1 (.imm (.int i))) (hb : EV X es1 b es2 (.imm (.int j))) : TV X es (.Compare a [.LtE] [b] pos) es2 (decide (i ≤ j)) := tv_cmp op_le (o2_I0 fun _ => Rep.bl_iff.mpr rfl) ha hb (nomark _)
theorem ev_gt (ha : EV X es a es1 (.imm (.int i))) (hb : EV X es1 b es2 (.imm (.int j))) : EV X es (.Compare a [.Gt] [b] pos) es2 (.imm (.bl (decide (i > j)))) := ev_cmp op_gt (o2_I0 fun _ => Rep.bl_iff.mpr rfl) ha hb (nomark _)
theorem tv_gt (ha : EV X es a es1 (.imm (.int i))) (hb : EV X es1 b es2 (.imm (.int j))) : TV X es (.Compare a [.Gt] [b] pos) es2 (decide (i > j)) := tv_cmp op_gt (o2_I0 fun _ => Rep.bl_iff.mpr rfl) ha hb (nomark _)
theorem ev_ge (ha : EV X es a es1 (.imm (.int i))) (hb : EV X es1 b es2 (.imm (.int j))) : EV X es (.Compare a [.GtE] [b] pos) es2 (.imm (.bl (decide (i ≥ j)))) := ev_cmp op_ge (o2_I0 fun _ => Rep.bl_iff.mpr rfl) ha hb (nomark _)
theorem tv_ge (ha : EV X es a es1 (.imm (.int i))) (hb : EV X es1 b es2 (.imm (.int j))) : TV X es (.Compare a [.GtE] [b] pos) es2 (decide (i ≥ j)) := tv_cmp op_ge (o2_I0 fun _ => Rep.bl_iff.mpr rfl) ha hb (nomark _)
theorem o2_eqI : O2 X es rEq (.imm (.int i)) (.imm (.int j)) (.imm (.bl (decide (i = j)))) := o2_imm fun F H x y Q hx hy k => by
  rw [Rep.int_iff.mp hx, Rep.int_iff.mp hy]
  refine ⟨rfl, k _ ?_⟩
  rw [Rep.bl_iff, show decide (V.int i = V.int j) = decide (i = j) by simp]
theorem o2_neI : O2 X es rNe (.imm (.int i)) (.imm (.int j)) (.imm (.bl (!decide (i = j)))) := o2_imm fun F H x y Q hx hy k => by
  rw [Rep.int_iff.mp hx, Rep.int_iff.mp hy]
  refine ⟨rfl, k _ ?_⟩
  rw [Rep.bl_iff, show decide (V.int i = V.int j) = decide (i = j) by simp]
theorem ev_eq (ha : EV X es a es1 (.imm (.int i))) (hb : EV X es1 b es2 (.imm (.int j))) : EV X es (.Compare a [.Eq] [b] pos) es2 (.imm (.bl (decide (i = j)))) := ev_cmp op_eq o2_eqI ha hb (nomark _)
theorem tv_eq (ha : EV X es a es1 (.imm (.int i))) (hb : EV X es1 b es2 (.imm (.int j))) : TV X es (.Compare a [.Eq] [b] pos) es2 (decide (i = j)) := tv_cmp op_eq o2_eqI ha hb (nomark _)
theorem ev_ne (ha : EV X es a es1 (.imm (.int i))) (hb : EV X es1 b es2 (.imm (.int j))) : EV X es (.Compare a [.NotEq] [b] pos) es2 (.imm (.bl (!decide (i = j)))) := ev_cmp op_ne o2_neI ha hb (nomark _)
theorem tv_ne (ha : EV X es a es1 (.imm (.int i))) (hb : EV X es1 b es2 (.imm (.int j))) : TV X es (.Compare a [.NotEq] [b] pos) es2 (!decide (i = j)) := tv_cmp op_ne o2_neI ha hb (nomark _)
end
/-! texts compared -/
section
variable {s t : Str}
theorem o2_eqS : O2 X es rEq (.imm (.str s)) (.imm (.str t)) (.imm (.bl (decide (s = t)))) := o2_imm fun F H x y Q hx hy k => by
  rw [Rep.str_iff.mp hx, Rep.str_iff.mp hy]
  refine ⟨rfl, k _ ?_⟩
  rw [Rep.bl_iff, show decide (V.str s = V.str t) = decide (s = t) by simp]
theorem o2_neS : O2 X es rNe (.imm (.str s)) (.imm (.str t)) (.imm (.bl (!decide (s = t)))) := o2_imm fun F H x y Q hx hy k => by
  rw [Rep.str_iff.mp hx, Rep.str_iff.mp hy]
  refine ⟨rfl, k _ ?_⟩
  rw [Rep.bl_iff, show decide (V.str s = V.str t) = decide (s = t) by simp]
theorem ev_eqS (ha : EV X es a es1 (.imm (.str s))) (hb : EV X es1 b es2 (.imm (.str t))) : EV X es (.Compare a [.Eq] [b] pos) es2 (.imm (.bl (decide (s = t)))) := ev_cmp op_eq o2_eqS ha hb (nomark _)
theorem tv_eqS (ha : EV X es a es1 (.imm (.str s))) (hb : EV X es1 b es2 (.imm (.str t))) : TV X es (.Compare a [.Eq] [b] pos) es2 (decide (s = t)) := tv_cmp op_eq o2_eqS ha hb (nomark _)
theorem tv_neS (ha : EV X es a es1 (.imm (.str s))) (hb : EV X es1 b es2 (.imm (.str t))) : TV X es (.Compare a [.NotEq] [b] pos) es2 (!decide (s = t)) := tv_cmp op_ne o2_neS ha hb (nomark _)
theorem ev_addS (ha : EV X es a es1 (.imm (.str s))) (hb : EV X es1 b es2 (.imm (.str t))) (h : s.length + t.length ≤ 1000000) : EV X es (.BinOp a .Add b pos) es2 (.imm (.str (s ++ t))) :=
  ev_op op_add_str (o2_imm fun F H x y Q hx hy k => ⟨s, t, Rep.str_iff.mp hx, Rep.str_iff.mp hy, Nat.le_trans h (by decide), k _ (Rep.str_iff.mpr rfl)⟩) ha hb
end
/-! is None -/
def D.isN : D → Bool
  | .non => true
  | _ => false
theorem Vw.isN {K : PySem.W.Frag} {F H : Hp} {d : D} {v : V} (h : Vw K F H d v) : decide (v = .non) = d.isN := by
  rcases h with h | ⟨_, _, e, e2, _⟩ | ⟨_, _, e, e2, _⟩
  · cases d <;> (rw [Rep] at h; first | (obtain ⟨_, _, h, _⟩ := h; subst h; rfl) | (obtain ⟨_, h, _⟩ := h; subst h; rfl) | (subst h; rfl))
  · subst e e2; rfl
  · subst e e2; rfl
theorem o2_isN {d : D} (va : view es ra = some d) : O2 X es (fun x y H Q => y = V.non ∧ Q (.bl (decide (x = .non))) H) ra (.imm .non) (.imm (.bl d.isN)) := o2_of va rfl fun B F H E T x y Q S hx hy k => by
  refine ⟨hy.non, ?_⟩
  rw [hx.isN]
  exact S.ret1 (Rep.bl_iff.mpr rfl) k
theorem o2_notN {d : D} (va : view es ra = some d) : O2 X es (fun x y H Q => y = V.non ∧ Q (.bl (!decide (x = .non))) H) ra (.imm .non) (.imm (.bl (!d.isN))) := o2_of va rfl fun B F H E T x y Q S hx hy k => by
  refine ⟨hy.non, ?_⟩
  rw [hx.isN]
  exact S.ret1 (Rep.bl_iff.mpr rfl) k
theorem ev_isN {d : D} (ha : EV X es a es1 ra) (hb : EV X es1 b es2 (.imm .non)) (va : view es2 ra = some d) : EV X es (.Compare a [.Is] [b] pos) es2 (.imm (.bl d.isN)) := ev_cmp op_isN (o2_isN va) ha hb (nomark _)
theorem tv_isN {d : D} (ha : EV X es a es1 ra) (hb : EV X es1 b es2 (.imm .non)) (va : view es2 ra = some d) : TV X es (.Compare a [.Is] [b] pos) es2 d.isN := tv_cmp op_isN (o2_isN va) ha hb (nomark _)
theorem ev_notN {d : D} (ha : EV X es a es1 ra) (hb : EV X es1 b es2 (.imm .non)) (va : view es2 ra = some d) : EV X es (.Compare a [.IsNot] [b] pos) es2 (.imm (.bl (!d.isN))) := ev_cmp op_notN (o2_notN va) ha hb (nomark _)
theorem tv_notN {d : D} (ha : EV X es a es1 ra) (hb : EV X es1 b es2 (.imm .non)) (va : view es2 ra = some d) : TV X es (.Compare a [.IsNot] [b] pos) es2 (!d.isN) := tv_cmp op_notN (o2_notN va) ha hb (nomark _)

/-! ### lengths, items -/
def D.len : D → Option Nat
  | .tup ds => some ds.length
  | .lst ds => some ds.length
  | .scr ns => some ns.length
  | .str s => if s.length ≤ 1000000 then some s.length else none
  | _ => none
theorem on_len {d : D} {n : Nat} (va : view es ra = some d) (hn : d.len = some n) : ON X es (fun xs H Q => ∃ x n, xs = [x] ∧ LenV X.K x H n ∧ Q (.int (n : Int)) H) [ra] (.imm (.int (n : Int))) := on1_of va fun B F H E T x Q S hx k => by
  have fin : ∀ m : Nat, m = n → Q (.int (m : Int)) H := fun m e => by subst e; exact S.ret1 (Rep.int_iff.mpr rfl) k
  cases d with
  | tup ds =>
    obtain ⟨a, xs, rfl, h1, h2⟩ := hx.tup S
    exact ⟨_, xs.length, rfl, .inr ⟨xs, h1, rfl⟩, fin _ (by rw [← h2.len]; exact Option.some.inj hn)⟩
  | lst ds =>
    obtain ⟨a, xs, rfl, h1, h2⟩ := hx.lst S
    exact ⟨_, xs.length, rfl, .inl ⟨xs, .inl (.inl h1), rfl⟩, fin _ (by rw [← h2.len]; exact Option.some.inj hn)⟩
  | scr ns =>
    obtain ⟨a, rfl, h1⟩ := hx.scr S
    exact ⟨_, ns.length, rfl, .inl ⟨_, h1, by simp⟩, fin _ (Option.some.inj hn)⟩
  | str s =>
    rw [hx.str]
    have hn : (if s.length ≤ 1000000 then some s.length else none) = some n := hn
    split at hn
    · rename_i hs
      exact ⟨_, s.length, rfl, ⟨Nat.le_trans hs (by decide), rfl⟩, fin _ (Option.some.inj hn)⟩
    · cases hn
  | non => cases hn
  | bl _ => cases hn
  | int _ => cases hn
  | dic _ => cases hn
  | ty _ => cases hn
/-- d's item at i -/
def D.at (d : D) (i : Int) : Option D := match d with
  | .tup ds => atI ds i
  | .lst ds => atI ds i
  | .scr ns => (atI ns i).map D.int
  | .str s => if s.length ≤ 1000000 then (atI s.cps.toList i).map fun c => D.str ⟨#[c]⟩ else none
  | _ => none
theorem atI_rep {K : PySem.W.Frag} {F : Hp} {ds : List D} {xs : List V} {d : D} (h : Reps K F ds xs) (e : atI ds i = some d) : ∃ x, atI xs i = some x ∧ Rep K F d x := by
  unfold atI at e ⊢
  rw [h.len] at e
  cases q : ixN xs.length i with
  | none => rw [q] at e; cases e
  | some j =>
    rw [q] at e
    exact h.get e
theorem atI_map {α β : Type} {f : α → β} {xs : List α} {x : α} (e : atI xs i = some x) : atI (xs.map f) i = some (f x) := by
  unfold atI at e ⊢
  rw [List.length_map]
  cases q : ixN xs.length i with
  | none => rw [q] at e; cases e
  | some j =>
    rw [q] at e
    show (xs.map f)[j]? = _
    rw [List.getElem?_map, show xs[j]? = some x from e]; rfl
theorem o2_at {da d : D} (va : view es ra = some da) (h : da.at i = some d) : O2 X es (rIx X.K) ra (.imm (.int i)) (.imm d) := o2_of va rfl fun B F H E T x y Q S hx hy k => by
  rw [hy.int]
  cases da with
  | tup ds =>
    obtain ⟨a, xs, rfl, h1, h2⟩ := hx.tup S
    obtain ⟨z, hz, hr⟩ := atI_rep h2 h
    exact .inr (.inl ⟨a, xs, i, z, rfl, rfl, h1, hz, S.ret1 hr k⟩)
  | lst ds =>
    obtain ⟨a, xs, rfl, h1, h2⟩ := hx.lst S
    obtain ⟨z, hz, hr⟩ := atI_rep h2 h
    exact .inl ⟨a, xs, i, z, rfl, rfl, .inl (.inl h1), hz, S.ret1 hr k⟩
  | scr ns =>
    obtain ⟨a, rfl, h1⟩ := hx.scr S
    have h : (atI ns i).map D.int = some d := h
    cases q : atI ns i with
    | none => rw [q] at h; cases h
    | some n =>
      rw [q] at h
      have h : D.int n = d := Option.some.inj h
      subst h
      exact .inl ⟨a, _, i, .int n, rfl, rfl, h1, atI_map q, S.ret1 (Rep.int_iff.mpr rfl) k⟩
  | str s =>
    rw [hx.str]
    have h : (if s.length ≤ 1000000 then (atI s.cps.toList i).map fun c => D.str ⟨#[c]⟩ else none) = some d := h
    split at h
    · rename_i hs
      cases q : atI s.cps.toList i with
      | none => rw [q] at h; cases h
      | some c =>
        rw [q] at h
        have h : D.str ⟨#[c]⟩ = d := Option.some.inj h
        subst h
        exact .inr (.inr ⟨s, i, c, rfl, rfl, Nat.le_trans hs (by decide), q, S.ret1 (Rep.str_iff.mpr rfl) k⟩)
    · cases h
  | non => cases h
  | bl _ => cases h
  | int _ => cases h
  | dic _ => cases h
  | ty _ => cases h
theorem ev_at {da d : D} (ha : EV X es a es1 ra) (hb : EV X es1 b es2 (.imm (.int i))) (va : view es2 ra = some da) (h : da.at i = some d) (hp : PlainIx b := by first | (intro _ _; rfl) | exact fun _ _ => rfl) : EV X es (.Subscript a b pos) es2 (.imm d) := ev_ix ix_seq (o2_at va h) ha hb hp
/-! ### lists put together -/
theorem ev_cat {ds ds' : List D} (ha : EV X es a es1 ra) (hb : EV X es1 b es2 rb) (va : view es2 ra = some (.lst ds)) (vb : view es2 rb = some (.lst ds')) (hz : ds.length + ds'.length ≤ 1000000) : EV X es (.BinOp a .Add b pos) es2 (.own (ds ++ ds')) :=
  ev_op op_cat (o2_of va vb fun B F H E T x y Q S hx hy k => by
    obtain ⟨p, xs, rfl, h1, h2⟩ := hx.lst S
    obtain ⟨q, ys, rfl, h3, h4⟩ := hy.lst S
    exact ⟨p, q, xs, ys, rfl, rfl, h1, h3, by rw [← h2.len, ← h4.len]; exact Nat.le_trans hz (by decide), fun l hl => k _ F _ (Ext.refl F) (S.newL hl (h2.append h4))⟩) ha hb
theorem ev_rep {ds : List D} (ha : EV X es a es1 ra) (hb : EV X es1 b es2 (.imm (.int i))) (va : view es2 ra = some (.lst ds)) (h0 : -(2 ^ 63) ≤ i ∧ i < 2 ^ 63) (hz : ds.length * i.toNat ≤ 1000000) : EV X es (.BinOp a .Mult b pos) es2 (.own (List.replicate i.toNat ds).flatten) :=
  ev_op op_rep (o2_of va rfl fun B F H E T x y Q S hx hy k => by
    obtain ⟨p, xs, rfl, h1, h2⟩ := hx.lst S
    rw [hy.int]
    refine ⟨p, i, xs, rfl, rfl, h1, h0.1, h0.2, by rw [← h2.len]; exact Nat.le_trans hz (by decide), fun l hl => k _ F _ (Ext.refl F) (S.newL hl ?_)⟩
    have : ∀ n : Nat, Reps X.K F (List.replicate n ds).flatten (List.replicate n xs).flatten := by
      intro n
      induction n with
      | zero => exact Reps.nil
      | succ n ih =>
        rw [List.replicate_succ, List.replicate_succ, List.flatten_cons, List.flatten_cons]
        exact h2.append ih
    exact this _) ha hb
end
end DL

set_option maxRecDepth 100000
set_option maxHeartbeats 1000000
/-! The data layer: calls and methods. -/
namespace DL
open PySem L2
open PyProof.Rows hiding St

section
variable {X : Cx} {es es1 es2 es3 : List R} {e a b c o : Expr} {r ra rb : R} {pos apos p : Pos} {i j : Int} {as : List Expr} {rs : List R}
/-! ### names of the module and of the built-ins as values -/
theorem ev_blt {x : Str} {n : String} (hg : Gl X x) (hm : X.mg x = none) (hv : bootBuiltins x = some (.type n)) (hn : x ≠ "__name__" := by decide) (hd : (x == ("__debug__" : Str)) = false := by decide) : EV X es (.Name x pos) es (.imm (.ty n)) := fun B F H E T Q hE S k =>
  of_pe (pe_bltn hg hm hv (v := .ty n) rfl hn hd) (k _ F H E (Ext.refl F) hE rfl (S.imm (Rep.ty_iff.mpr rfl)))
/-- a module's constant that is no object of the heap, or one that is written -/
theorem ev_glob {x : Str} {u : Value} {v : V} {d : D} (hm : X.mg x = some u) (hr : RelV v u) (hd' : ∀ F, Rep X.K F d v) (hg : Gl X x) (hd : (x == ("__debug__" : Str)) = false := by decide) : EV X es (.Name x pos) es (.imm d) := fun B F H E T Q hE S k =>
  of_pe (pe_glob hg hm hr hd) (k _ F H E (Ext.refl F) hE rfl (S.imm (hd' F)))

/-! ### is, isinstance, repr -/
theorem op_isAny {b : Bool} : OpR X (compareOp .Is) (fun x y H Q => y = .bl b ∧ Q (.bl (decide (x = .bl b))) H) := by
  intro pins s σ H x y v u Q I rx ry h
  obtain ⟨rfl, q⟩ := h
  cases (show u = Value.bool b from ry)
  by_cases e : x = .bl b
  · subst e
    cases (show v = Value.bool b from rx)
    exact wpAny_is_self rfl ⟨.bl true, H, I, rfl, by simpa using q⟩
  · have hne : v ≠ Value.bool b := by
      intro z
      subst z
      cases x <;> first
        | (obtain ⟨t, z⟩ := rx; cases z; done)
        | (cases rx; exact e rfl)
        | (cases rx; done)
    have hp : plainIs v (Value.bool b) = true := by
      cases x <;> first
        | (obtain ⟨t, rfl⟩ := rx; rfl)
        | (cases rx; rfl)
    exact wpAny_is_other hp hne ⟨.bl false, H, I, rfl, by simpa [e] using q⟩
def D.isB : D → Bool → Bool
  | .bl a, b => a == b
  | _, _ => false
theorem Vw.isB {K : PySem.W.Frag} {F H : Hp} {d : D} {v : V} {b : Bool} (h : Vw K F H d v) : decide (v = .bl b) = d.isB b := by
  rcases h with h | ⟨_, _, e, e2, _⟩ | ⟨_, _, e, e2, _⟩
  · cases d <;> (rw [Rep] at h; first | (obtain ⟨_, _, h, _⟩ := h; subst h; simp [D.isB]) | (obtain ⟨_, h, _⟩ := h; subst h; simp [D.isB]) | (subst h; simp [D.isB]; done) | (subst h; rw [Bool.eq_iff_iff]; simp [D.isB]))
  · subst e e2; simp [D.isB]
  · subst e e2; simp [D.isB]
theorem o2_isB {d : D} {q : Bool} (va : view es ra = some d) : O2 X es (fun x y H Q => y = .bl q ∧ Q (.bl (decide (x = .bl q))) H) ra (.imm (.bl q)) (.imm (.bl (d.isB q))) := o2_of va rfl fun B F H E T x y Q S hx hy k => by
  refine ⟨hy.bl, ?_⟩
  rw [hx.isB]
  exact S.ret1 (Rep.bl_iff.mpr rfl) k
theorem ev_isB {d : D} {q : Bool} (ha : EV X es a es1 ra) (hb : EV X es1 b es2 (.imm (.bl q))) (va : view es2 ra = some d) : EV X es (.Compare a [.Is] [b] pos) es2 (.imm (.bl (d.isB q))) := ev_cmp op_isAny (o2_isB va) ha hb (nomark _)
theorem tv_isB {d : D} {q : Bool} (ha : EV X es a es1 ra) (hb : EV X es1 b es2 (.imm (.bl q))) (va : view es2 ra = some d) : TV X es (.Compare a [.Is] [b] pos) es2 (d.isB q) := tv_cmp op_isAny (o2_isB va) ha hb (nomark _)
def D.tyName : D → Option String
  | .non => some "NoneType" | .bl _ => some "bool" | .int _ => some "int" | .str _ => some "str" | .tup _ => some "tuple" | .lst _ => some "list" | .dic _ => some "dict" | .scr _ => some "list" | .ty _ => none
theorem Vw.tyX {K : PySem.W.Frag} {B : Bas} {F H : Hp} {E : EL} {T : TL} {d : D} {v : V} {n : String} (h : Vw K F H d v) (S : StOk K B F H E T) (hn : d.tyName = some n) : TyX K H v (.type n) := by
  cases d with
  | non => rw [h.non]; cases hn; exact .base .non
  | bl x => rw [h.bl]; cases hn; exact .base (.bl x)
  | int x => rw [h.int]; cases hn; exact .base (.int x)
  | str x => rw [h.str]; cases hn; exact .base (.str x)
  | tup ds =>
    cases hn
    obtain ⟨a, xs, rfl, (h1 | ⟨ob, h1⟩) | ⟨ob, its, n, h1, h2, _⟩, _⟩ := h.tup S
    · exact .base (.tup h1)
    · exact .fTuple h1
    · exact .kTuple h1 h2
  | lst ds =>
    cases hn
    obtain ⟨a, xs, rfl, h1, _⟩ := h.lst S
    exact .base (.lst h1)
  | scr ns =>
    cases hn
    obtain ⟨a, rfl, (h1 | ⟨ob, h1⟩) | ⟨ob, its, n, h1, h2, _⟩⟩ := h.scr S
    · exact .base (.lst h1)
    · exact .base (.frz h1)
    · exact .kList h1 h2
  | dic kvs =>
    cases hn
    rcases h with h | ⟨_, _, e, _⟩ | ⟨kvs', p, e, rfl, xs, h1, _⟩
    · rw [Rep] at h
      obtain ⟨a, xs, rfl, h2, _⟩ := h
      have := S.le _ _ h2
      cases e : B.lk a with
      | none => exact .base (.dK ((At.nolk e).mp this))
      | some ob =>
        unfold At at this
        rw [e] at this
        exact .fDict this
    · cases e
    · exact .base (.dK h1)
  | ty _ => cases hn
theorem on_isi {d : D} {n m : String} {q : Bool} (va : view es ra = some d) (hn : d.tyName = some n) (hq : kitB n m = some q) : ON X es (rIsi X.K) [ra, .imm (.ty m)] (.imm (.bl q)) := on2_of va rfl fun B F H E T x y Q S hx hy k => by
  rw [hy.ty]
  exact ⟨x, .ty m, .type n, .type m, q, rfl, .ty m, hx.tyX S hn, kit_ty hq, S.ret1 (Rep.bl_iff.mpr rfl) k⟩
theorem call_repr_str : CallR X (.builtin "repr") (fun xs H Q => ∃ y : Str, xs = [.str y] ∧ (reprText y).length ≤ sizeLine ∧ Q (.str (reprText y)) H) := by
  intro pins s σ H xs us Q I r h
  obtain ⟨i, rfl, hz, q⟩ := h
  obtain ⟨u, rfl, t, rfl⟩ := vals1 r
  exact PySem.P.repr_of_str ⟨.str _, H, I.tok _, ⟨_, rfl⟩, q⟩ hz
theorem on_reprI {n : Int} (h : n.natAbs.log2 < 1920) : ON X es (fun xs H Q => ∃ i, xs = [.int i] ∧ i.natAbs.log2 < 1920 ∧ Q (.str (toString i)) H) [.imm (.int n)] (.imm (.str (toString n))) := on1_of rfl fun B F H E T x Q S hx k =>
  ⟨n, by rw [hx.int], h, S.ret1 (Rep.str_iff.mpr rfl) k⟩
theorem on_reprS {y : Str} (h : (reprText y).length ≤ 1000000) : ON X es (fun xs H Q => ∃ y : Str, xs = [.str y] ∧ (reprText y).length ≤ sizeLine ∧ Q (.str (reprText y)) H) [.imm (.str y)] (.imm (.str (reprText y))) := on1_of rfl fun B F H E T x Q S hx k =>
  ⟨y, by rw [hx.str], Nat.le_trans h (by decide), S.ret1 (Rep.str_iff.mpr rfl) k⟩
/-! ### small built-ins -/
section
variable {st1 : Bool}
/-- a call of a built-in with one argument -/
theorem ev_cB1 {x : Str} {id : String} {q : List V → Hp → VK → Prop} (hc : CallR X (.builtin id) q) (h : ON X es1 q [ra] r) (ha : EV X es a es1 ra) (hm : X.mg x = none) (hg : Gl X x) (hv : bootBuiltins x = some (.builtin id))
    (hn : x ≠ "__name__" := by decide) (hdb : (x == ("__debug__" : Str)) = false := by decide) (he : starEach [a] X.env = (false, eval a X.env) :: starEach [] X.env := by rfl) : EV X es (.Call (.Name x p) [a] [] pos) es1 r :=
  ev_callB hc h (av_cons ha av_nil he) hg hm hv hn hdb he (by rfl)
theorem ev_cT1 {x : Str} {id : String} {q : List V → Hp → VK → Prop} (hc : CallR X (.type id) q) (h : ON X es1 q [ra] r) (ha : EV X es a es1 ra) (hm : X.mg x = none) (hg : Gl X x) (hv : bootBuiltins x = some (.type id))
    (hn : x ≠ "__name__" := by decide) (hdb : (x == ("__debug__" : Str)) = false := by decide) (he : starEach [a] X.env = (false, eval a X.env) :: starEach [] X.env := by rfl) : EV X es (.Call (.Name x p) [a] [] pos) es1 r :=
  ev_callTy hc h (av_cons ha av_nil he) hg hm hv hn hdb he (by rfl)
theorem ev_cB2 {x : Str} {id : String} {q : List V → Hp → VK → Prop} (hc : CallR X (.builtin id) q) (h : ON X es2 q [ra, rb] r) (ha : EV X es a es1 ra) (hb : EV X es1 b es2 rb) (hm : X.mg x = none) (hg : Gl X x) (hv : bootBuiltins x = some (.builtin id))
    (hn : x ≠ "__name__" := by decide) (hdb : (x == ("__debug__" : Str)) = false := by decide) (he : starEach [a, b] X.env = (false, eval a X.env) :: starEach [b] X.env := by rfl) (he2 : starEach [b] X.env = (false, eval b X.env) :: starEach [] X.env := by rfl) : EV X es (.Call (.Name x p) [a, b] [] pos) es2 r :=
  ev_callB hc h (av_cons ha (av_cons hb av_nil he2) he) hg hm hv hn hdb he (by rw [he2]; rfl)
theorem ev_len {d : D} {n : Nat} (ha : EV X es a es1 ra) (va : view es1 ra = some d) (hn : d.len = some n) (hm : X.mg "len" = none) (hg : Gl X "len" := by rfl) (he : starEach [a] X.env = (false, eval a X.env) :: starEach [] X.env := by rfl) : EV X es (.Call (.Name "len" p) [a] [] pos) es1 (.imm (.int (n : Int))) :=
  ev_cB1 call_len (on_len va hn) ha hm hg PySem.boot_len (he := he)
theorem ev_intc (ha : EV X es a es1 (.imm (.int i))) (hm : X.mg "int" = none) (hg : Gl X "int" := by rfl) (he : starEach [a] X.env = (false, eval a X.env) :: starEach [] X.env := by rfl) : EV X es (.Call (.Name "int" p) [a] [] pos) es1 (.imm (.int i)) :=
  ev_cT1 call_int1 (on1_of rfl fun B F H E T x Q S hx k => .inl ⟨i, by rw [hx.int], S.ret1 (Rep.int_iff.mpr rfl) k⟩) ha hm hg (by decide +kernel) (he := he)
theorem ev_intb {q : Bool} (ha : EV X es a es1 (.imm (.bl q))) (hm : X.mg "int" = none) (hg : Gl X "int" := by rfl) (he : starEach [a] X.env = (false, eval a X.env) :: starEach [] X.env := by rfl) : EV X es (.Call (.Name "int" p) [a] [] pos) es1 (.imm (.int (if q = true then 1 else 0))) :=
  ev_cT1 call_int1 (on1_of rfl fun B F H E T x Q S hx k => .inr ⟨q, by rw [hx.bl], S.ret1 (Rep.int_iff.mpr rfl) k⟩) ha hm hg (by decide +kernel) (he := he)
theorem ev_max2 (hc : X.calm = true) (ha : EV X es a es1 (.imm (.int i))) (hb : EV X es1 b es2 (.imm (.int j))) (hm : X.mg "max" = none) (hg : Gl X "max" := by rfl) (he : starEach [a, b] X.env = (false, eval a X.env) :: starEach [b] X.env := by rfl) (he2 : starEach [b] X.env = (false, eval b X.env) :: starEach [] X.env := by rfl) :
    EV X es (.Call (.Name "max" p) [a, b] [] pos) es2 (.imm (.int (if j > i then j else i))) :=
  ev_cB2 (call_max2 hc) (on2_of rfl rfl fun B F H E T x y Q S hx hy k => ⟨i, j, by rw [hx.int, hy.int], S.ret1 (Rep.int_iff.mpr rfl) k⟩) ha hb hm hg (by decide +kernel) (he := he) (he2 := he2)
theorem ev_min2 (hc : X.calm = true) (ha : EV X es a es1 (.imm (.int i))) (hb : EV X es1 b es2 (.imm (.int j))) (hm : X.mg "min" = none) (hg : Gl X "min" := by rfl) (he : starEach [a, b] X.env = (false, eval a X.env) :: starEach [b] X.env := by rfl) (he2 : starEach [b] X.env = (false, eval b X.env) :: starEach [] X.env := by rfl) :
    EV X es (.Call (.Name "min" p) [a, b] [] pos) es2 (.imm (.int (if j < i then j else i))) :=
  ev_cB2 (call_min2 hc) (on2_of rfl rfl fun B F H E T x y Q S hx hy k => ⟨i, j, by rw [hx.int, hy.int], S.ret1 (Rep.int_iff.mpr rfl) k⟩) ha hb hm hg (by decide +kernel) (he := he) (he2 := he2)
theorem ev_abs (ha : EV X es a es1 (.imm (.int i))) (hm : X.mg "abs" = none) (hg : Gl X "abs" := by rfl) (he : starEach [a] X.env = (false, eval a X.env) :: starEach [] X.env := by rfl) : EV X es (.Call (.Name "abs" p) [a] [] pos) es1 (.imm (.int (if i < 0 then -i else i))) :=
  ev_cB1 call_abs (on1_of rfl fun B F H E T x Q S hx k => ⟨i, by rw [hx.int], S.ret1 (Rep.int_iff.mpr rfl) k⟩) ha hm hg (by decide +kernel) (he := he)
theorem ev_reprI (ha : EV X es a es1 (.imm (.int i))) (h : i.natAbs.log2 < 1920) (hm : X.mg "repr" = none) (hg : Gl X "repr" := by rfl) (he : starEach [a] X.env = (false, eval a X.env) :: starEach [] X.env := by rfl) : EV X es (.Call (.Name "repr" p) [a] [] pos) es1 (.imm (.str (toString i))) :=
  ev_cB1 SkE.call_repr_int (on_reprI h) ha hm hg (by decide +kernel) (he := he)
theorem ev_reprS {y : Str} (ha : EV X es a es1 (.imm (.str y))) (h : (reprText y).length ≤ 1000000) (hm : X.mg "repr" = none) (hg : Gl X "repr" := by rfl) (he : starEach [a] X.env = (false, eval a X.env) :: starEach [] X.env := by rfl) : EV X es (.Call (.Name "repr" p) [a] [] pos) es1 (.imm (.str (reprText y))) :=
  ev_cB1 call_repr_str (on_reprS h) ha hm hg (by decide +kernel) (he := he)
theorem ev_isi {d : D} {n m : String} {q : Bool} (ha : EV X es a es1 ra) (hb : EV X es1 b es2 (.imm (.ty m))) (va : view es2 ra = some d) (hn : d.tyName = some n) (hq : kitB n m = some q) (hm : X.mg "isinstance" = none) (hg : Gl X "isinstance" := by rfl)
    (he : starEach [a, b] X.env = (false, eval a X.env) :: starEach [b] X.env := by rfl) (he2 : starEach [b] X.env = (false, eval b X.env) :: starEach [] X.env := by rfl) : EV X es (.Call (.Name "isinstance" p) [a, b] [] pos) es2 (.imm (.bl q)) :=
  ev_cB2 call_isi (on_isi va hn hq) ha hb hm hg (by decide +kernel) (he := he) (he2 := he2)
/-! ### copies -/
theorem ev_list {ds : List D} (ha : EV X es a es1 ra) (va : view es1 ra = some (.lst ds) ∨ view es1 ra = some (.tup ds)) (hm : X.mg "list" = none) (hg : Gl X "list" := by rfl) (he : starEach [a] X.env = (false, eval a X.env) :: starEach [] X.env := by rfl) : EV X es (.Call (.Name "list" p) [a] [] pos) es1 (.own ds) :=
  ev_cT1 call_list_of (by
    rcases va with va | va
    · exact on1_of va fun B F H E T x Q S hx k => by
        obtain ⟨a, xs, rfl, h1, h2⟩ := hx.lst S
        exact ⟨a, xs, rfl, .inl (.inl (.inl h1)), fun l hl => k _ F _ (Ext.refl F) (S.newL hl h2)⟩
    · exact on1_of va fun B F H E T x Q S hx k => by
        obtain ⟨a, xs, rfl, h1, h2⟩ := hx.tup S
        exact ⟨a, xs, rfl, .inr h1, fun l hl => k _ F _ (Ext.refl F) (S.newL hl h2)⟩) ha hm hg (by decide +kernel) (he := he)
theorem ev_tuple {ds : List D} (ha : EV X es a es1 ra) (va : view es1 ra = some (.lst ds)) (hm : X.mg "tuple" = none) (hg : Gl X "tuple" := by rfl) (he : starEach [a] X.env = (false, eval a X.env) :: starEach [] X.env := by rfl) : EV X es (.Call (.Name "tuple" p) [a] [] pos) es1 (.imm (.tup ds)) :=
  ev_cT1 call_tuple_of (on1_of va fun B F H E T x Q S hx k => by
    obtain ⟨a, xs, rfl, h1, h2⟩ := hx.lst S
    exact ⟨a, xs, rfl, .inl ⟨.inl (.inl h1), fun l hl => k _ _ _ (Ext.new (S.free hl).1) (S.newT hl h2)⟩⟩) ha hm hg (by decide +kernel) (he := he)
/-! ### sums, greatest, all -/
theorem Vw.ints {K : PySem.W.Frag} {B : Bas} {F H : Hp} {E : EL} {T : TL} {ns : List Int} {v : V} (h : Vw K F H (.lst (ns.map D.int)) v) (S : StOk K B F H E T) : ∃ a, v = .ref a ∧ SqL K H a (ns.map V.int) := by
  obtain ⟨a, xs, rfl, h1, h2⟩ := h.lst S
  rw [Reps.ints.mp h2] at h1
  exact ⟨a, rfl, .inl (.inl h1)⟩
theorem Reps.bls {K : PySem.W.Frag} {F : Hp} : ∀ {ns : List Bool} {xs : List V}, Reps K F (ns.map D.bl) xs ↔ xs = ns.map V.bl
  | [], xs => by simp [Reps]
  | n :: ns, xs => by
    constructor
    · intro h
      rw [List.map_cons, Reps] at h
      obtain ⟨x, r, rfl, h2, h3⟩ := h
      rw [Rep.bl_iff.mp h2, Reps.bls.mp h3]; rfl
    · intro h
      subst h
      exact Reps.cons (Rep.bl_iff.mpr rfl) (Reps.bls.mpr rfl)
theorem Vw.bls {K : PySem.W.Frag} {B : Bas} {F H : Hp} {E : EL} {T : TL} {ns : List Bool} {v : V} (h : Vw K F H (.lst (ns.map D.bl)) v) (S : StOk K B F H E T) : ∃ a, v = .ref a ∧ SqL K H a (ns.map V.bl) := by
  obtain ⟨a, xs, rfl, h1, h2⟩ := h.lst S
  rw [Reps.bls.mp h2] at h1
  exact ⟨a, rfl, .inl (.inl h1)⟩
theorem ev_sum {ns : List Int} (hc : X.calm = true) (ha : EV X es a es1 ra) (va : view es1 ra = some (.lst (ns.map D.int))) (hm : X.mg "sum" = none) (hg : Gl X "sum" := by rfl) (he : starEach [a] X.env = (false, eval a X.env) :: starEach [] X.env := by rfl) : EV X es (.Call (.Name "sum" p) [a] [] pos) es1 (.imm (.int ns.sum)) :=
  ev_cB1 (cr_sum hc) (on1_of va fun B F H E T x Q S hx k => by
    obtain ⟨a, rfl, h1⟩ := hx.ints S
    exact ⟨a, ns, rfl, h1, S.ret1 (Rep.int_iff.mpr rfl) k⟩) ha hm hg (by decide +kernel) (he := he)
/-- the greatest, the least of a list -/
def mxL : List Int → Int
  | [] => 0
  | x :: xs => xs.foldl max x
def mnL : List Int → Int
  | [] => 0
  | x :: xs => xs.foldl min x
theorem foldl_max_ge : ∀ (xs : List Int) (x : Int), x ≤ xs.foldl max x ∧ ∀ y ∈ xs, y ≤ xs.foldl max x
  | [], x => ⟨Int.le_refl _, fun y h => by simp at h⟩
  | z :: xs, x => by
    obtain ⟨h1, h2⟩ := foldl_max_ge xs (max x z)
    refine ⟨by show x ≤ xs.foldl max (max x z); omega, fun y hy => ?_⟩
    show y ≤ xs.foldl max (max x z)
    rcases List.mem_cons.mp hy with rfl | hy
    · omega
    · exact h2 y hy
theorem foldl_max_mem : ∀ (xs : List Int) (x : Int), xs.foldl max x = x ∨ xs.foldl max x ∈ xs
  | [], x => .inl rfl
  | z :: xs, x => by
    show xs.foldl max (max x z) = x ∨ xs.foldl max (max x z) ∈ z :: xs
    rcases foldl_max_mem xs (max x z) with h | h
    · rcases Int.le_total x z with q | q
      · exact .inr (by rw [h, Int.max_eq_right q]; exact List.mem_cons_self)
      · exact .inl (by rw [h, Int.max_eq_left q])
    · exact .inr (List.mem_cons_of_mem _ h)
theorem mxL_ge {xs : List Int} {y : Int} (h : y ∈ xs) : y ≤ mxL xs := by
  cases xs with
  | nil => simp at h
  | cons x xs =>
    rcases List.mem_cons.mp h with rfl | h
    · exact (foldl_max_ge xs y).1
    · exact (foldl_max_ge xs x).2 y h
theorem mxL_mem {xs : List Int} (h : xs ≠ []) : mxL xs ∈ xs := by
  cases xs with
  | nil => exact absurd rfl h
  | cons x xs =>
    rcases foldl_max_mem xs x with q | q
    · show xs.foldl max x ∈ _; rw [q]; exact List.mem_cons_self
    · exact List.mem_cons_of_mem _ q
theorem mxL_eq {xs : List Int} {m : Int} (h1 : m ∈ xs) (h2 : ∀ y ∈ xs, y ≤ m) : mxL xs = m :=
  Int.le_antisymm (h2 _ (mxL_mem (List.ne_nil_of_mem h1))) (mxL_ge h1)
theorem foldl_min_le : ∀ (xs : List Int) (x : Int), xs.foldl min x ≤ x ∧ ∀ y ∈ xs, xs.foldl min x ≤ y
  | [], x => ⟨Int.le_refl _, fun y h => by simp at h⟩
  | z :: xs, x => by
    obtain ⟨h1, h2⟩ := foldl_min_le xs (min x z)
    refine ⟨by show xs.foldl min (min x z) ≤ x; omega, fun y hy => ?_⟩
    show xs.foldl min (min x z) ≤ y
    rcases List.mem_cons.mp hy with rfl | hy
    · omega
    · exact h2 y hy
theorem foldl_min_mem : ∀ (xs : List Int) (x : Int), xs.foldl min x = x ∨ xs.foldl min x ∈ xs
  | [], x => .inl rfl
  | z :: xs, x => by
    show xs.foldl min (min x z) = x ∨ xs.foldl min (min x z) ∈ z :: xs
    rcases foldl_min_mem xs (min x z) with h | h
    · rcases Int.le_total x z with q | q
      · exact .inl (by rw [h, Int.min_eq_left q])
      · exact .inr (by rw [h, Int.min_eq_right q]; exact List.mem_cons_self)
    · exact .inr (List.mem_cons_of_mem _ h)
theorem mnL_le {xs : List Int} {y : Int} (h : y ∈ xs) : mnL xs ≤ y := by
  cases xs with
  | nil => simp at h
  | cons x xs =>
    rcases List.mem_cons.mp h with rfl | h
    · exact (foldl_min_le xs y).1
    · exact (foldl_min_le xs x).2 y h
theorem mnL_mem {xs : List Int} (h : xs ≠ []) : mnL xs ∈ xs := by
  cases xs with
  | nil => exact absurd rfl h
  | cons x xs =>
    rcases foldl_min_mem xs x with q | q
    · show xs.foldl min x ∈ _; rw [q]; exact List.mem_cons_self
    · exact List.mem_cons_of_mem _ q
theorem mnL_eq {xs : List Int} {m : Int} (h1 : m ∈ xs) (h2 : ∀ y ∈ xs, m ≤ y) : mnL xs = m :=
  Int.le_antisymm (mnL_le h1) (h2 _ (mnL_mem (List.ne_nil_of_mem h1)))
theorem ev_max1 {ns : List Int} (hc : X.calm = true) (ha : EV X es a es1 ra) (va : view es1 ra = some (.lst (ns.map D.int))) (hne : ns ≠ []) (hm : X.mg "max" = none) (hg : Gl X "max" := by rfl) (he : starEach [a] X.env = (false, eval a X.env) :: starEach [] X.env := by rfl) : EV X es (.Call (.Name "max" p) [a] [] pos) es1 (.imm (.int (mxL ns))) :=
  ev_cB1 (cr_max hc) (on1_of va fun B F H E T x Q S hx k => by
    obtain ⟨a, rfl, h1⟩ := hx.ints S
    exact ⟨a, ns, rfl, h1, List.length_pos_iff.mpr hne, fun m h1 h2 => by rw [← mxL_eq h1 h2]; exact S.ret1 (Rep.int_iff.mpr rfl) k⟩) ha hm hg (by decide +kernel) (he := he)
theorem ev_min1 {ns : List Int} (hc : X.calm = true) (ha : EV X es a es1 ra) (va : view es1 ra = some (.lst (ns.map D.int))) (hne : ns ≠ []) (hm : X.mg "min" = none) (hg : Gl X "min" := by rfl) (he : starEach [a] X.env = (false, eval a X.env) :: starEach [] X.env := by rfl) : EV X es (.Call (.Name "min" p) [a] [] pos) es1 (.imm (.int (mnL ns))) :=
  ev_cB1 (cr_min hc) (on1_of va fun B F H E T x Q S hx k => by
    obtain ⟨a, rfl, h1⟩ := hx.ints S
    exact ⟨a, ns, rfl, h1, List.length_pos_iff.mpr hne, fun m h1 h2 => by rw [← mnL_eq h1 h2]; exact S.ret1 (Rep.int_iff.mpr rfl) k⟩) ha hm hg (by decide +kernel) (he := he)
theorem ev_all {bs : List Bool} (hc : X.calm = true) (ha : EV X es a es1 ra) (va : view es1 ra = some (.lst (bs.map D.bl))) (hm : X.mg "all" = none) (hg : Gl X "all" := by rfl) (he : starEach [a] X.env = (false, eval a X.env) :: starEach [] X.env := by rfl) : EV X es (.Call (.Name "all" p) [a] [] pos) es1 (.imm (.bl (bs.all id))) :=
  ev_cB1 (cr_all hc) (on1_of va fun B F H E T x Q S hx k => by
    obtain ⟨a, rfl, h1⟩ := hx.bls S
    exact ⟨a, bs, rfl, h1, S.ret1 (Rep.bl_iff.mpr rfl) k⟩) ha hm hg (by decide +kernel) (he := he)
theorem ev_any {bs : List Bool} (hc : X.calm = true) (ha : EV X es a es1 ra) (va : view es1 ra = some (.lst (bs.map D.bl))) (hm : X.mg "any" = none) (hg : Gl X "any" := by rfl) (he : starEach [a] X.env = (false, eval a X.env) :: starEach [] X.env := by rfl) : EV X es (.Call (.Name "any" p) [a] [] pos) es1 (.imm (.bl (bs.any id))) :=
  ev_cB1 (cr_any hc) (on1_of va fun B F H E T x Q S hx k => by
    obtain ⟨a, rfl, h1⟩ := hx.bls S
    exact ⟨a, bs, rfl, h1, S.ret1 (Rep.bl_iff.mpr rfl) k⟩) ha hm hg (by decide +kernel) (he := he)
end
end
end DL

set_option maxRecDepth 100000
set_option maxHeartbeats 1000000
/-! The data layer: lists that change, slices, methods of texts. -/
namespace DL
open PySem L2
open PyProof.Rows hiding St

section
variable {X : Cx} {es es1 es2 es3 : List R} {e a b c o : Expr} {r ra rb : R} {pos apos p : Pos} {i j : Int} {as : List Expr} {rs : List R}
theorem R.bx_own {r : R} {ds ds' : List D} (h : IsBx r ds) : IsBx (r.bx ds') ds' := by
  rcases h with rfl | rfl
  · exact .inl rfl
  · exact .inr rfl
theorem StOk.locBx {K : PySem.W.Frag} {B : Bas} {F H : Hp} {E : EL} {T : TL} (S : StOk K B F H E T) {j : Nat} {v : V} {r0 : R} {ds : List D} (hm : (R.loc j, v) ∈ T) (hj : (E.map (·.1))[j]? = some r0) (hb : IsBx r0 ds) : ∃ p, v = .ref p ∧ E[j]? = some (r0, some (.ref p)) ∧ OwnL K F H ds p := by
  rcases S.entT _ hm with q | ⟨j', r', e, q, ho⟩
  · exact q.elim
  · cases e
    rw [List.getElem?_map, q] at hj
    have hj : r' = r0 := Option.some.inj hj
    subst hj
    rcases S.entE _ (List.mem_of_getElem? q) with q' | ⟨u, e, q'⟩
    · have q' : r' = .any := q'
      subst q'; cases ho
    · cases e
      rcases hb with rfl | rfl
      · obtain ⟨pb, e3, h1, _⟩ := q'
        have e3 : v = .ref pb := e3
        subst e3
        exact ⟨pb, rfl, q, h1⟩
      · obtain ⟨pb, e3, h1, _⟩ := q'
        have e3 : v = .ref pb := e3
        subst e3
        exact ⟨pb, rfl, q, h1⟩
/-- slot j's list becomes ds' -/
theorem StOk.mutL {K : PySem.W.Frag} {B : Bas} {F H : Hp} {E : EL} {T : TL} (S : StOk K B F H E T) {j : Nat} {q : Addr} {r0 : R} {ds ds' : List D} {xs : List V} (hq : E[j]? = some (r0, some (.ref q))) (hb : IsBx r0 ds) (hr : Reps K F ds' xs) : StOk K B F (upd H q (.lst xs)) (E.set j (r0.bx ds', some (.ref q))) T := by
  refine S.mut hq (by rcases hb with rfl | rfl <;> rfl) (by rcases hb with rfl | rfl <;> rfl) fun h => ?_
  rcases hb with rfl | rfl
  · obtain ⟨p, e, ⟨ys, h1, h2, h3⟩, h4⟩ := h
    cases e
    exact ⟨q, rfl, ⟨xs, upd_same, hr, h3⟩, h4⟩
  · obtain ⟨p, e, ⟨ys, h1, h2, h3⟩, h4⟩ := h
    cases e
    exact ⟨q, rfl, ⟨xs, upd_same, hr, h3⟩, h4⟩
theorem set_vals {E : EL} {j : Nat} {r0 r1 : R} {v : Option V} (h : E[j]? = some (r0, v)) : (E.set j (r1, v)).map (·.2) = E.map (·.2) := by
  rw [List.map_set]
  apply List.ext_getElem?
  intro i
  by_cases e : j = i
  · subst e
    rw [List.getElem?_set_self (by simpa using (List.getElem?_eq_some_iff.mp h).1), List.getElem?_map, h]; rfl
  · rw [List.getElem?_set_ne e]
/-- a method of a list that changes it, its arguments parts that stand still -/
theorem ev_mutM {name : Str} {id : String} {q : V → List V → Hp → VK → Prop} {k : Nat} {r0 : R} {ds ds' : List D} {args : List D} {res : D} (slot : Slot "list" name id) (hty : typeOf (.builtin id) = pure (.type "method_descriptor")) (hm : MtR X id q)
    (ho : EV X es o es1 (.loc k)) (ha : AV X es1 (a :: as) es2 rs) (hd : rs.map immD = args.map some) (h1 : es1[k]? = some ra) (h1b : ra.isOwn = true) (h1l : ∃ z, IsBx ra z) (hk : es2[k]? = some r0) (hb : IsBx r0 ds)
    (h : ∀ (F H : Hp) (l : Addr) (xs vs : List V) (Q : VK), H l = some (.lst xs) → Reps X.K F ds xs → Reps X.K F args vs → (∀ v xs', Rep X.K F res v → Reps X.K F ds' xs' → Q v (upd H l (.lst xs'))) → q (.ref l) vs H Q)
    (hbase : attributeBase o name X.env (eval o X.env) = eval o X.env)
    (hplain : ((((backTo pos (starEach (a :: as) X.env)).all fun x => !x.1) && (backToKw pos (keywordEach [] X.env)).all fun x => x.1.isSome) && decide (((a :: as).length + ([] : List Keyword).length + if ([] : List Keyword).isEmpty = true then 0 else 1) < 30)) = true)
    (hline : (apos.endLine == pos.line) = true) (hst : starEach (a :: as) X.env = (false, eval a X.env) :: starEach as X.env) (hpl : (backTo pos (starEach as X.env)).any (·.1) = false) :
    EV X es (.Call (.Attribute o name apos) (a :: as) [] pos) (es2.set k (r0.bx ds')) (.imm res) := fun B F H E T Q hE S kk =>
  of_pe (pe_bm PySem.F.plainAttrs_list slot hty hm pe_w pa_w hbase hplain hline hst hpl) (ho B F H E T _ hE S fun v F1 H1 E1 x1 e1 f1 S1 => by
    obtain ⟨z, hz⟩ := h1l
    obtain ⟨l, rfl, _, xs, hl, _⟩ := S1.locBx (List.mem_cons_self) (by rw [e1]; exact h1) hz
    refine ⟨.inl ⟨rfl, xs, .inl (.inl hl)⟩, ?_⟩
    have := ha B F1 H1 E1 _ (fun ys H2 => q (.ref l) ys H2 Q) e1 S1 fun vs F2 H2 E2 x2 e2 f2 hl S2 => by
      have hv := reps_of hd hl S2
      obtain ⟨l', el, hE2, xs2, hl2, hx2, _⟩ := S2.locBx (j := k) (v := .ref l) (List.mem_append_right _ List.mem_cons_self) (by rw [e2]; exact hk) hb
      cases el
      refine h F2 H2 l xs2 vs Q hl2 hx2 hv fun w xs' hw hx' => ?_
      have S3 := S2.mutL hE2 hb hx'
      refine kk w F2 _ _ (x1.trans x2) (by rw [List.map_set, e2]) ((set_vals hE2).trans (f2.trans f1)) ?_
      exact (S3.sub ((List.sublist_cons_self _ _).trans (List.sublist_append_right _ _))).imm hw
    rw [f1] at this; exact this)
theorem ev_append {k : Nat} {r0 : R} {ds : List D} {d : D} (ho : EV X es o es1 (.loc k)) (ha : EV X es1 a es2 (.imm d)) (h1 : es1[k]? = some ra) (h1l : ∃ z, IsBx ra z) (hk : es2[k]? = some r0) (hb : IsBx r0 ds) (hz : ds.length < 1000000)
    (hbase : attributeBase o "append" X.env (eval o X.env) = eval o X.env := by rfl) (hline : (apos.endLine == pos.line) = true := by rfl) (hst : starEach [a] X.env = (false, eval a X.env) :: starEach [] X.env := by rfl) :
    EV X es (.Call (.Attribute o "append" apos) [a] [] pos) (es2.set k (r0.bx (ds ++ [d]))) (.imm .non) :=
  ev_mutM (args := [d]) PySem.F.slot_list_append PySem.F.type_list_append mt_append ho (av_cons ha av_nil hst) rfl h1 (by obtain ⟨z, hz⟩ := h1l; rcases hz with rfl | rfl <;> rfl) h1l hk hb (fun F H l xs vs Q hl hx hv kq => by
    rw [Reps] at hv
    obtain ⟨x, r, rfl, hx1, hv⟩ := hv
    rw [Reps] at hv
    subst hv
    exact ⟨l, xs, x, rfl, rfl, hl, by rw [← hx.len]; exact Nat.lt_of_lt_of_le hz (by decide), kq _ _ (Rep.non_iff.mpr rfl) (hx.append (Reps.cons hx1 Reps.nil))⟩) hbase (by rw [hst]; rfl) hline hst (by rfl)
theorem ev_popAt {k : Nat} {r0 : R} {ds : List D} {d : D} {m : Nat} (ho : EV X es o es1 (.loc k)) (ha : EV X es1 a es2 (.imm (.int i))) (h1 : es1[k]? = some ra) (h1l : ∃ z, IsBx ra z) (hk : es2[k]? = some r0) (hb : IsBx r0 ds) (hi : i = (m : Int)) (hm : ds[m]? = some d) (hz : ds.length < 1000000)
    (hbase : attributeBase o "pop" X.env (eval o X.env) = eval o X.env := by rfl) (hline : (apos.endLine == pos.line) = true := by rfl) (hst : starEach [a] X.env = (false, eval a X.env) :: starEach [] X.env := by rfl) :
    EV X es (.Call (.Attribute o "pop" apos) [a] [] pos) (es2.set k (r0.bx (ds.eraseIdx m))) (.imm d) :=
  ev_mutM (args := [.int i]) PySem.F.slot_list_pop PySem.F.type_list_pop mt_popAt ho (av_cons ha av_nil hst) rfl h1 (by obtain ⟨z, hz⟩ := h1l; rcases hz with rfl | rfl <;> rfl) h1l hk hb (fun F H l xs vs Q hl hx hv kq => by
    rw [Reps] at hv
    obtain ⟨x, r, rfl, hx1, hv⟩ := hv
    rw [Reps] at hv
    subst hv
    rw [Rep.int_iff] at hx1
    subst hx1
    have hlt : m < ds.length := (List.getElem?_eq_some_iff.mp hm).1
    obtain ⟨y, hy, hr⟩ := hx.get hm
    refine ⟨l, xs, i, m, y, rfl, rfl, hl, by omega, by omega, ?_, hy, kq _ _ hr (hx.eraseIdx m)⟩
    rw [seqIndex_of (by omega) (by rw [← hx.len]; omega), hi]; rfl) hbase (by rw [hst]; rfl) hline hst (by rfl)
/-- o[i] = e -/
theorem s_setIx {P : Post} {k : Nat} {r0 : R} {ds : List D} {d : D} {m : Nat} {tpos : Pos} (he : EV X es e es1 (.imm d)) (ho : EV X es1 o es2 (.loc k)) (hi : EV X es2 a es3 (.imm (.int i))) (hk : es3[k]? = some r0) (hb : IsBx r0 ds) (hm : ixN ds.length i = some m)
    (kk : P.nx (es3.set k (r0.bx (ds.set m d))))
    (hsub : ∀ v, assign (.Subscript o a tpos) X.env v = (do
      let ov ← holding [v] (eval o X.env)
      let iv ← holding [v, ov] (eval a X.env)
      standAt tpos
      holding [v, ov, iv] (setItem ov iv v)
      release [v, ov, iv] []) := by intro _; rfl)
    (hs : swapsWithSole [.Subscript o a tpos] e pos.line X.env = pure false := by rfl) (hw : swappedStores [.Subscript o a tpos] e X.env = pure none := by rfl)
    (h1 : (assignEach [.Subscript o a tpos] X.env).map (·.2) = [assign (.Subscript o a tpos) X.env] := by rfl) : S1 X es (.Assign [.Subscript o a tpos] e pos) P := fun B F H E T D hE hT S A =>
  of_ps (ps_asg pe_w (pg_sub pe_w pe_w set_list hsub) hs hw h1) (he B F H E T _ hE S fun v F1 H1 E1 x1 e1 f1 S1 => by
    show gSub _ _ _ _ _ _ _
    have := ho B F1 H1 E1 _ (fun ov H2 => wE X a (E.map (·.2)) H2 fun iv H3 => rSetL ov iv v H3 fun H4 => D.nx (E.map (·.2)) H4) e1 S1 fun ov F2 H2 E2 x2 e2 f2 S2 => ?_
    · rw [f1] at this; exact this
    · have := hi B F2 H2 E2 _ (fun iv H3 => rSetL ov iv v H3 fun H4 => D.nx (E.map (·.2)) H4) e2 S2 fun iv F3 H3 E3 x3 e3 f3 S3 => ?_
      · rw [f2, f1] at this; exact this
      · obtain ⟨l, rfl, hE3, xs, hl, hx, _⟩ := S3.locBx (j := k) (v := ov) (by simp) (by rw [e3]; exact hk) hb
        have hv : Rep X.K F3 d v := (S3.entT (.imm d, v) (by simp)).noloc rfl
        refine ⟨l, xs, i, m, rfl, S3.topInt, hl, by rw [← hx.len]; exact hm, ?_⟩
        have S4 := S3.mutL hE3 hb (hx.set m hv)
        have := A.nx F3 _ _ (x1.trans (x2.trans x3)) S4.pop.pop.pop (by rw [List.map_set, e3]; exact kk)
        rw [set_vals hE3, f3, f2, f1] at this
        exact this)
/-! ### slices -/
theorem ov_none : OV X es none es none := fun B F H E T Q hE S k => of_po po_none (k F H E (Ext.refl F) hE rfl S)
theorem ov_some (h : EV X es a es1 (.imm (.int i))) : OV X es (some a) es1 (some i) := fun B F H E T Q hE S k =>
  of_po (po_some pe_w) (h B F H E T _ hE S fun v F1 H1 E1 x1 e1 f1 S1 => ⟨i, S1.topInt, k F1 H1 E1 x1 e1 f1 S1.pop⟩)
def cutD (ds : List D) (lo hi : Option Int) : List D := (ds.drop (HT.sIx ds.length 0 lo)).take (HT.sIx ds.length ds.length hi - HT.sIx ds.length 0 lo)
theorem Reps.cut {K : PySem.W.Frag} {F : Hp} {ds : List D} {xs : List V} (h : Reps K F ds xs) (lo hi : Option Int) : Reps K F (cutD ds lo hi) (cutV xs lo hi) := by
  unfold cutD cutV
  rw [h.len]
  exact (h.drop _).take _
theorem ev_slice {lo hi : Option Expr} {u v : Option Int} {ds : List D} {p2 : Pos} (ha : EV X es a es1 ra) (hl : OV X es1 lo es2 u) (hh : OV X es2 hi es3 v) (va : view es3 ra = some (.lst ds)) : EV X es (.Subscript a (.Slice lo hi none p2) pos) es3 (.own (cutD ds u v)) := fun B F H E T Q hE S k =>
  of_pe (pe_slice sl_list pe_w po_w po_w) (ha B F H E T _ hE S fun x F1 H1 E1 x1 e1 f1 S1 => by
    have := hl B F1 H1 E1 _ (fun l H2 => wO X hi (E.map (·.2)) H2 fun u H3 => rSlL X.K x l u H3 Q) e1 S1 fun F2 H2 E2 x2 e2 f2 S2 => ?_
    · rw [f1] at this; exact this
    · have := hh B F2 H2 E2 _ (fun w H3 => rSlL X.K x u w H3 Q) e2 S2 fun F3 H3 E3 x3 e3 f3 S3 => ?_
      · rw [f2, f1] at this; exact this
      · obtain ⟨p, xs, rfl, h1, h2⟩ := (S3.vw e3 List.mem_cons_self va).lst S3
        refine ⟨p, xs, rfl, .inl (.inl h1), fun l hl => ?_⟩
        exact k _ F3 _ E3 (x1.trans (x2.trans x3)) e3 (f3.trans (f2.trans f1)) (S3.newL hl (h2.cut u v)).pop2)
theorem ev_sliceS {lo hi : Option Expr} {u v : Option Int} {s : Str} {p2 : Pos} (ha : EV X es a es1 (.imm (.str s))) (hl : OV X es1 lo es2 u) (hh : OV X es2 hi es3 v) (hz : s.length ≤ 1000000) : EV X es (.Subscript a (.Slice lo hi none p2) pos) es3 (.imm (.str (cutS s u v))) := fun B F H E T Q hE S k =>
  of_pe (pe_slice sl_str pe_w po_w po_w) (ha B F H E T _ hE S fun x F1 H1 E1 x1 e1 f1 S1 => by
    have := hl B F1 H1 E1 _ (fun l H2 => wO X hi (E.map (·.2)) H2 fun u H3 => rSlS x l u H3 Q) e1 S1 fun F2 H2 E2 x2 e2 f2 S2 => ?_
    · rw [f1] at this; exact this
    · have := hh B F2 H2 E2 _ (fun w H3 => rSlS x u w H3 Q) e2 S2 fun F3 H3 E3 x3 e3 f3 S3 => ?_
      · rw [f2, f1] at this; exact this
      · have hx : Rep X.K F3 (.str s) x := (S3.entT _ List.mem_cons_self).noloc rfl
        refine ⟨s, Rep.str_iff.mp hx, Nat.le_trans hz (by decide), ?_⟩
        exact k _ F3 _ E3 (x1.trans (x2.trans x3)) e3 (f3.trans (f2.trans f1)) (S3.pop.imm (Rep.str_iff.mpr rfl)))
/-! ### methods of texts -/
theorem mt_strIndex : MtR X "str.index" (fun x xs H Q => ∃ (a b : Str) (k : Nat), x = .str a ∧ xs = [.str b] ∧ PySem.Txt.index0 a b = some k ∧ Q (.int (k : Nat)) H) := by
  intro pins s σ H x xs v us Q I rx rs h
  obtain ⟨a, b, k, rfl, rfl, hk, w⟩ := h
  obtain ⟨t, rfl⟩ := rx
  cases rs with
  | cons r1 rs =>
    cases rs
    obtain ⟨u, rfl⟩ := r1
    unfold PySem.Txt.index0 at hk
    cases q : Builtin.Str.occurrences a b 0 a.length 1 with
    | nil => rw [q] at hk; cases hk
    | cons k' rest =>
      rw [q] at hk
      have hk : k' = k := Option.some.inj hk
      subst hk
      exact PySem.SC.index q ⟨.int (k' : Nat), H, I.tok _, ⟨_, rfl⟩, w⟩
/-- a method of a text, one argument -/
theorem ev_strM1 {name : Str} {id : String} {q : V → List V → Hp → VK → Prop} {s : Str} (slot : Slot "str" name id) (hty : typeOf (.builtin id) = pure (.type "method_descriptor")) (hm : MtR X id q) (ho : EV X es o es1 (.imm (.str s))) (ha : EV X es1 a es2 ra)
    (h : O1 X es2 (fun x H Q => q (.str s) [x] H Q) ra r)
    (hst : starEach [a] X.env = [(false, eval a X.env)]) (hbase : attributeBase o name X.env (eval o X.env) = eval o X.env) (hline : (apos.endLine == pos.line) = true) : EV X es (.Call (.Attribute o name apos) [a] [] pos) es2 r := fun B F H E T Q hE S k =>
  of_pe (pe_m1 slot hty hm pe_w pe_w hst hbase hline) (ho B F H E T _ hE S fun v F1 H1 E1 x1 e1 f1 S1 => by
    have hv : Rep X.K F1 (.str s) v := (S1.entT (.imm (.str s), v) List.mem_cons_self).noloc rfl
    rw [Rep.str_iff] at hv
    subst hv
    refine ⟨⟨s, rfl⟩, ?_⟩
    have := ha B F1 H1 E1 _ (fun y H2 => q (.str s) [y] H2 Q) e1 S1 fun y F2 H2 E2 x2 e2 f2 S2 => ?_
    · rw [f1] at this; exact this
    · exact h B F2 H2 E2 _ y Q e2 S2 fun w F3 H3 x3 S3 => k w F3 H3 E2 (x1.trans (x2.trans x3)) e2 (f2.trans f1) S3.pop3)
theorem ev_strIndex {s t : Str} {n : Nat} (ho : EV X es o es1 (.imm (.str s))) (ha : EV X es1 a es2 (.imm (.str t))) (hn : PySem.Txt.index0 s t = some n) (hst : starEach [a] X.env = [(false, eval a X.env)] := by rfl) (hbase : attributeBase o "index" X.env (eval o X.env) = eval o X.env := by rfl) (hline : (apos.endLine == pos.line) = true := by rfl) :
    EV X es (.Call (.Attribute o "index" apos) [a] [] pos) es2 (.imm (.int (n : Int))) :=
  ev_strM1 PySem.F.slot_str_index PySem.F.type_str_index mt_strIndex ho ha (o1_of rfl fun B F H E T x Q S hx k => ⟨s, t, n, rfl, by rw [hx.str], hn, S.ret1 (Rep.int_iff.mpr rfl) k⟩) hst hbase hline
theorem ev_join {s : Str} {ys : List Str} (ho : EV X es o es1 (.imm (.str s))) (ha : EV X es1 a es2 ra) (va : view es2 ra = some (.lst (ys.map D.str))) (hz : (ys.map (·.length)).sum + ys.length * s.length ≤ 1000000) (hst : starEach [a] X.env = [(false, eval a X.env)] := by rfl) (hbase : attributeBase o "join" X.env (eval o X.env) = eval o X.env := by rfl) (hline : (apos.endLine == pos.line) = true := by rfl) :
    EV X es (.Call (.Attribute o "join" apos) [a] [] pos) es2 (.imm (.str (PySem.Txt.join s ys))) :=
  ev_strM1 PySem.F.slot_str_join PySem.F.type_str_join mt_join ho ha (o1_of va fun B F H E T x Q S hx k => by
    obtain ⟨l, xs, rfl, h1, h2⟩ := hx.lst S
    rw [Reps.strs.mp h2] at h1
    exact ⟨s, l, ys, rfl, rfl, .inl (.inl (.inl h1)), Nat.le_trans hz (by decide), S.ret1 (Rep.str_iff.mpr rfl) k⟩) hst hbase hline
end
end DL

set_option maxRecDepth 100000
set_option maxHeartbeats 1000000
/-! The data layer: short words for derivations. -/
namespace DL
open PySem L2
open PyProof.Rows hiding St
section
variable {X : Cx} {es es1 es2 es3 : List R} {e a b c o : Expr} {r ra rb : R} {pos apos p : Pos} {i j : Int} {as : List Expr} {rs : List R} {P : Post} {rest : List Stmt}
theorem GV.wk {es' : List R} {tg : Expr} {d : D} {is : List Nat} {e0 : List R} (h : GV X es tg d es' is) (hw : Wk e0 es) : GV0 X e0 tg d es' is := fun B F H E T v Q hE hT S k => by
  obtain ⟨E', e1, e2, S'⟩ := S.weak (fun x hx => by
    rcases List.mem_cons.mp hx with rfl | hx
    · rfl
    · exact hT x hx) (by rw [hE]; exact hw)
  have := h B F H E' T v Q e1 (fun i _ => hT.ne) S' fun E2 f1 f2 S2 => k E2 f1 S2
  rw [e2] at this; exact this
theorem TV.wk {q : Bool} {e0 : List R} (h : TV X es c es1 q) (hw : Wk e0 es) : TVw X e0 c es1 q := fun B F H E T Q hE hT S k => by
  obtain ⟨E', e1, e2, S'⟩ := S.weak hT (by rw [hE]; exact hw)
  have := h B F H E' T Q e1 S' fun F2 H2 E2 x f1 f2 S2 => k F2 H2 E2 x f1 (f2.trans e2) S2
  rw [e2] at this; exact this
theorem WV.cast {p q : Bool} (h : WV X es e es1 p) (e0 : p = q) : WV X es e es1 q := e0 ▸ h
theorem SV.imp {sts : List Stmt} {f g : List R → Prop} (h : SV X es sts { P with nx := f }) (hfg : ∀ e, f e → g e) : SV X es sts { P with nx := g } := fun B F H E T D hE hT S A =>
  h B F H E T D hE hT S ⟨fun F' H' E' x S' q => A.nx F' H' E' x S' (hfg _ q), A.rt, A.bk, A.ct⟩
theorem ev_v (i : Nat) {x : Str} {d : D} (he : es[i]? = some (.imm d) := by rfl) (hN : X.N[i]? = some x := by rfl) (hv : Vis X.env.scope x := by first | exact Or.inl rfl | exact Or.inr (Or.inl rfl) | exact Or.inr (Or.inr rfl)) (hd : (x == ("__debug__" : Str)) = false := by decide) (hcd : (x == ("__classdict__" : Str)) = false := by decide) :
    EV X es (.Name x pos) es (.imm d) := ev_var he hN hv hd hcd
theorem ev_l (i : Nat) {x : Str} (he : es[i]? = some r := by rfl) (ho : r.isOwn = true := by rfl) (hN : X.N[i]? = some x := by rfl) (hv : Vis X.env.scope x := by first | exact Or.inl rfl | exact Or.inr (Or.inl rfl) | exact Or.inr (Or.inr rfl)) (hd : (x == ("__debug__" : Str)) = false := by decide) (hcd : (x == ("__classdict__" : Str)) = false := by decide) :
    EV X es (.Name x pos) es (.loc i) := ev_loc he ho hN hv hd hcd
/-- x = e -/
theorem v_set (i : Nat) {x : Str} {pos' : Pos} (hN : X.N.Nodup) (h : EV X es e es1 r) (k : SV X (es1.set i r) rest P) (hr : r.noLoc = true := by rfl) (hi : X.N[i]? = some x := by rfl) (hx : Loc X.env.scope x := by first | exact Or.inl rfl | exact Or.inr rfl)
    (hs : swapsWith e (some (.Name x pos')) pos.line X.env = pure false := by rfl) (hf : X.fn x = true ∨ X.env.scope.names.lookup x = some .local := by first | exact .inl rfl | exact .inr rfl) : SV X es (.Assign [.Name x pos'] e pos :: rest) P := sv_cons (s_set h hr k hN hi hx hs hf)
theorem v_ret (h : EV X es e es1 r) (k : P.rt es1 r) (hr : r.noLoc = true := by rfl) : SV X es (.Return (some e) pos :: rest) P := sv_cons (s_ret h hr k)
theorem v_retL {j : Nat} (h : EV X es e es1 (.loc j)) (k : P.rt (es1.set j .any) r) (hj : es1[j]? = some r := by rfl) : SV X es (.Return (some e) pos :: rest) P := sv_cons (s_retL h hj k)
theorem v_retN (k : P.rt es (.imm .non)) : SV X es (.Return none pos :: rest) P := sv_cons (s_retN k)
theorem v_if {q : Bool} {sa sb : List Stmt} (hc : TV X es c es1 q) (ha : q = true → SV X es1 sa { P with nx := fun e => SV X e rest P }) (hb : q = false → SV X es1 sb { P with nx := fun e => SV X e rest P }) : SV X es (.If c sa sb pos :: rest) P := sv_cons (s_if hc ha hb)
/-- if, both ways to one row of slots -/
theorem v_ifJ {q : Bool} {sa sb : List Stmt} (es2 : List R) (hc : TV X es c es1 q) (ha : q = true → SV X es1 sa { P with nx := fun e => Wk e es2 }) (hb : q = false → SV X es1 sb { P with nx := fun e => Wk e es2 }) (k : SV X es2 rest P) : SV X es (.If c sa sb pos :: rest) P :=
  sv_cons (s_if hc (fun h => SV.imp (ha h) fun e hw => sv_wk k hw) fun h => SV.imp (hb h) fun e hw => sv_wk k hw)
theorem v_expr (h : EV X es e es1 r) (k : SV X es1 rest P) (hs : swapsWith e none pos.line X.env = pure false := by rfl) : SV X es (.Expr e pos :: rest) P := sv_cons (s_expr h hs k)
theorem v_aug (i : Nat) {x : Str} {pos' : Pos} {op : Operator} {ti : TIp} {d : D} (hN : X.N.Nodup) (h : EV X es e es1 rb) (ho : PIp X op ti) (h2 : O2 X es1 ti (.imm d) rb r) (k : SV X (es1.set i r) rest P) (hd : es[i]? = some (.imm d) := by rfl) (hr : r.noLoc = true := by rfl) (hi : X.N[i]? = some x := by rfl) (hx : Loc X.env.scope x := by first | exact Or.inl rfl | exact Or.inr rfl)
    (hf : X.fn x = true ∨ X.env.scope.names.lookup x = some .local := by first | exact .inl rfl | exact .inr rfl) : SV X es (.AugAssign (.Name x pos') op e pos :: rest) P := sv_cons (s_aug hd h ho h2 hr k hN hi hx hf)
theorem v_addI (i : Nat) {x : Str} {pos' : Pos} {m n : Int} (hN : X.N.Nodup) (h : EV X es e es1 (.imm (.int n))) (k : SV X (es1.set i (.imm (.int (m + n)))) rest P) (hd : es[i]? = some (.imm (.int m)) := by rfl) (hi : X.N[i]? = some x := by rfl) (hx : Loc X.env.scope x := by first | exact Or.inl rfl | exact Or.inr rfl)
    (hf : X.fn x = true ∨ X.env.scope.names.lookup x = some .local := by first | exact .inl rfl | exact .inr rfl) : SV X es (.AugAssign (.Name x pos') .Add e pos :: rest) P :=
  v_aug i hN h ip_add (o2_imm fun F H x y Q hx hy k => ⟨m, n, Rep.int_iff.mp hx, Rep.int_iff.mp hy, k _ (Rep.int_iff.mpr rfl)⟩) k hd rfl hi hx hf
theorem v_for {tg iter : Expr} {body : List Stmt} {ds : List D} (I : Nat → List R → Prop) (hi : IV X es tg iter es1 ds) (h0 : I 0 es1)
    (hs : ∀ k d e, ds[k]? = some d → I k e → ∃ e' is, GV0 X e tg d e' is ∧ SV X e' body { nx := I (k + 1), rt := P.rt, ct := I (k + 1), bk := fun e => SV X e rest P }) (hd : ∀ e, I ds.length e → SV X e rest P)
    (hc : X.calm = true := by rfl) (hfs : ∀ x, foldedSetIterable iter X.env x = pure x := by intro _; rfl) (hxe : X.xe = fun _ _ => False := by rfl) : SV X es (.For tg iter body [] pos :: rest) P := sv_cons (s_for hi I h0 hs hd hc hfs hxe)
/-- for, the slots behind each turn by a pattern (any: not told) -/
theorem v_forP {tg iter : Expr} {body : List Stmt} {ds : List D} (pat : Nat → List R) (hi : IV X es tg iter es1 ds) (h0 : Wk es1 (pat 0))
    (hs : ∀ k d, ds[k]? = some d → ∃ e' is, GV X (pat k) tg d e' is ∧ SV X e' body { nx := fun e => Wk e (pat (k + 1)), rt := P.rt, ct := fun e => Wk e (pat (k + 1)), bk := fun e => SV X e rest P }) (hd : SV X (pat ds.length) rest P)
    (hc : X.calm = true := by rfl) (hfs : ∀ x, foldedSetIterable iter X.env x = pure x := by intro _; rfl) (hxe : X.xe = fun _ _ => False := by rfl) : SV X es (.For tg iter body [] pos :: rest) P :=
  sv_cons (s_for hi (fun i e => Wk e (pat i)) h0 (fun k d e hk hw => by
    obtain ⟨e', is, hg, hb⟩ := hs k d hk
    exact ⟨e', is, GV.wk hg hw, hb⟩) (fun e hw => sv_wk hd hw) hc hfs hxe)
theorem v_while {body : List Stmt} (I : Nat → List R → Prop) (h0 : ∃ m, I m es)
    (hs : ∀ m e, I m e → ∃ e1 q, TVw X e c e1 q ∧ (q = true → SV X e1 body { nx := fun e' => ∃ m', m' < m ∧ I m' e', rt := P.rt, ct := fun e' => ∃ m', m' < m ∧ I m' e', bk := fun e => SV X e rest P }) ∧ (q = false → SV X e1 rest P)) (hxe : X.xe = fun _ _ => False := by rfl) :
    SV X es (.While c body [] pos :: rest) P := sv_cons (s_while I h0 hs hxe)
theorem v_setIx {k : Nat} {r0 : R} {ds : List D} {d : D} {m : Nat} {tpos : Pos} (he : EV X es e es1 (.imm d)) (ho : EV X es1 o es2 (.loc k)) (hi : EV X es2 a es3 (.imm (.int i))) (hb : IsBx r0 ds) (hm : ixN ds.length i = some m)
    (kk : SV X (es3.set k (r0.bx (ds.set m d))) rest P) (hk : es3[k]? = some r0 := by rfl)
    (hsub : ∀ v, assign (.Subscript o a tpos) X.env v = (do
      let ov ← holding [v] (eval o X.env)
      let iv ← holding [v, ov] (eval a X.env)
      standAt tpos
      holding [v, ov, iv] (setItem ov iv v)
      release [v, ov, iv] []) := by intro _; rfl)
    (hs : swapsWithSole [.Subscript o a tpos] e pos.line X.env = pure false := by rfl) (hw : swappedStores [.Subscript o a tpos] e X.env = pure none := by rfl)
    (h1 : (assignEach [.Subscript o a tpos] X.env).map (·.2) = [assign (.Subscript o a tpos) X.env] := by rfl) : SV X es (.Assign [.Subscript o a tpos] e pos :: rest) P := sv_cons (s_setIx he ho hi hk hb hm kk hsub hs hw h1)
theorem g_n (i : Nat) {x : Str} {d : D} (hN : X.N.Nodup) (hi : X.N[i]? = some x := by rfl) (hx : Loc X.env.scope x := by first | exact Or.inl rfl | exact Or.inr rfl) (hf : X.fn x = true ∨ X.env.scope.names.lookup x = some .local := by first | exact .inl rfl | exact .inr rfl) : GV X es (.Name x pos) d (es.set i (.imm d)) [i] := gv_name hN hi hx hf
end
end DL

set_option maxRecDepth 100000
set_option maxHeartbeats 1000000
/-! The data layer: defs called with lists that their caller may change yet; defs by their names. -/
namespace DL
open PySem L2
open PyProof.Rows hiding St

mutual
/-- no list, no dict within -/
def D.flat : D → Bool
  | .tup ds => flats ds
  | .lst _ => false
  | .dic _ => false
  | .scr _ => false
  | _ => true
def flats : List D → Bool
  | [] => true
  | d :: ds => d.flat && flats ds
end
def R.flat : R → Bool
  | .imm d => d.flat
  | .own ds => flats ds
  | _ => false
mutual
theorem Rep.cut {K : PySem.W.Frag} {F F' : Hp} (h : ∀ a u, Rd F a u → (∃ xs, u = .tup xs) → Rd F' a u) : ∀ (d : D) (v : V), d.flat = true → Rep K F d v → Rep K F' d v
  | .non, _, _, r => by rw [Rep] at r ⊢; exact r
  | .bl _, _, _, r => by rw [Rep] at r ⊢; exact r
  | .int _, _, _, r => by rw [Rep] at r ⊢; exact r
  | .str _, _, _, r => by rw [Rep] at r ⊢; exact r
  | .ty _, _, _, r => by rw [Rep] at r ⊢; exact r
  | .tup ds, _, hf, r => by
    rw [Rep] at r ⊢
    obtain ⟨a, xs, h1, h2, h3⟩ := r
    refine ⟨a, xs, h1, ?_, Reps.cutF h ds xs (by simpa [D.flat] using hf) h3⟩
    rcases h2 with h2 | h2
    · exact .inl (h a _ h2 ⟨xs, rfl⟩)
    · exact .inr h2
  | .lst _, _, hf, _ => by simp [D.flat] at hf
  | .dic _, _, hf, _ => by simp [D.flat] at hf
  | .scr _, _, hf, _ => by simp [D.flat] at hf
theorem Reps.cutF {K : PySem.W.Frag} {F F' : Hp} (h : ∀ a u, Rd F a u → (∃ xs, u = .tup xs) → Rd F' a u) : ∀ (ds : List D) (xs : List V), flats ds = true → Reps K F ds xs → Reps K F' ds xs
  | [], _, _, r => by rw [Reps] at r ⊢; exact r
  | d :: ds, _, hf, r => by
    rw [Reps] at r ⊢
    obtain ⟨x, t, h1, h2, h3⟩ := r
    have hf : (d.flat && flats ds) = true := by simpa [flats] using hf
    obtain ⟨f1, f2⟩ := Bool.and_eq_true_iff.mp hf
    exact ⟨x, t, h1, Rep.cut h d x f1 h2, Reps.cutF h ds t f2 h3⟩
end
open Classical in
/-- F and what stands at L -/
noncomputable def plusL (F H : Hp) (L : List Addr) : Hp := fun a => if a ∈ L then H a else F a
open Classical in
noncomputable def lessL (F : Hp) (L : List Addr) : Hp := fun a => if a ∈ L then none else F a
section
variable {K : PySem.W.Frag} {B : Bas} {F H F' H' : Hp} {E : EL} {T : TL} {r : R} {u : V} {L : List Addr}
theorem plusL_in {a : Addr} (h : a ∈ L) : plusL F H L a = H a := if_pos h
theorem plusL_out {a : Addr} (h : a ∉ L) : plusL F H L a = F a := if_neg h
theorem lessL_in {a : Addr} (h : a ∈ L) : lessL F L a = none := if_pos h
theorem lessL_out {a : Addr} (h : a ∉ L) : lessL F L a = F a := if_neg h
/-- the owned ones are lists or dicts -/
theorem EntO.kind (h : EntO K B F H r u) {p : Addr} (hp : p ∈ ownA r u) : (∃ xs, H p = some (.lst xs)) ∨ ∃ xs, H p = some (.dK xs) := by
  obtain ⟨ho, rfl⟩ := ownA_mem.mp hp
  cases r with
  | any => cases ho
  | imm d => cases ho
  | loc j => cases ho
  | own ds => obtain ⟨q, e, ⟨xs, h1, _⟩, _⟩ := h; cases e; exact .inl ⟨xs, h1⟩
  | box ds => obtain ⟨q, e, ⟨xs, h1, _⟩, _⟩ := h; cases e; exact .inl ⟨xs, h1⟩
  | ownD ds => obtain ⟨q, e, ⟨xs, h1, _⟩, _⟩ := h; cases e; exact .inr ⟨xs, h1⟩
def ownAll (E : EL) (T : TL) : List Addr := E.flatMap ownE ++ T.flatMap ownT
theorem StOk.kindAll (S : StOk K B F H E T) {p : Addr} (hp : p ∈ ownAll E T) : ((∃ xs, H p = some (.lst xs)) ∨ ∃ xs, H p = some (.dK xs)) ∧ F p = none ∧ B.lk p = none := by
  have hF : F p = none := by
    rcases List.mem_append.mp hp with h | h
    · exact (S.ownE_ok h).2
    · exact (S.ownT_ok h).2
  refine ⟨?_, hF, ?_⟩
  · rcases List.mem_append.mp hp with h | h
    · obtain ⟨⟨r, v⟩, hx, hq⟩ := List.mem_flatMap.mp h
      cases v with
      | none => simp [ownE] at hq
      | some w =>
        rcases S.entE _ hx with q | ⟨z, e, q⟩
        · have q : r = .any := q
          subst q
          have hq : p ∈ ownA .any w := hq
          simp [ownA, R.isOwn] at hq
        · cases e; exact q.kind hq
    · obtain ⟨⟨r, v⟩, hx, hq⟩ := List.mem_flatMap.mp h
      rcases S.entT _ hx with q | ⟨j, r', e, _⟩
      · exact q.kind hq
      · have e : r = .loc j := e
        subst e
        have hq : p ∈ ownA (.loc j) v := hq
        simp [ownA, R.isOwn] at hq
  · cases e : B.lk p with
    | none => rfl
    | some ob => obtain ⟨kvs, hk⟩ := S.lkd p ob e; rw [hF] at hk; cases hk
theorem StOk.enterV (S : StOk K B F H E T) (hL : ∀ p ∈ L, p ∈ ownAll E T) : StOk K (entB H (plusL F H L) [] B.lk) (plusL F H L) H [] [] where
  le := fun a o h => by
    by_cases ha : a ∈ L
    · rw [plusL_in ha] at h
      exact (At.nolk (S.kindAll (hL a ha)).2.2).mpr h
    · rw [plusL_out ha] at h; exact S.le a o h
  sup := Ext.refl _
  new := fun a o h => .inl h
  keep := fun a o h _ => .inl ⟨rfl, h⟩
  mus := fun a h => by simp at h
  lkd := fun a ob h => by
    obtain ⟨kvs, hk⟩ := S.lkd a ob h
    have ha : a ∉ L := fun z => by
      have := (S.kindAll (hL a z)).2.1
      rw [this] at hk; cases hk
    exact ⟨kvs, by rw [plusL_out ha]; exact hk⟩
  entE := fun x h => by simp at h
  entT := fun x h => by simp at h
  dis := by simp
theorem plusL_ext (S : StOk K B F H E T) (hL : ∀ p ∈ L, p ∈ ownAll E T) : Ext F (plusL F H L) := fun a o h => by
  have ha : a ∉ L := fun z => by
    have := (S.kindAll (hL a z)).2.1
    rw [this] at h; cases h
  rw [plusL_out ha]; exact h
theorem EntO.plus {d : D} (h : EntO K B F H r u) (e : r.data = some d) (S : StOk K B F H E T) (hL : ∀ p ∈ L, p ∈ ownAll E T) (hp : ∀ p ∈ ownA r u, p ∈ L) : Rep K (plusL F H L) d u := by
  cases r with
  | any => cases e
  | loc j => cases e
  | imm d' => cases e; exact Rep.ext (plusL_ext S hL) _ _ h
  | own ds =>
    cases e
    obtain ⟨p, rfl, ⟨xs, h1, h2, h3⟩, _⟩ := h
    rw [Rep]
    exact ⟨p, xs, rfl, by rw [plusL_in (hp p (ownA_mem.mpr ⟨rfl, rfl⟩))]; exact h1, Reps.ext (plusL_ext S hL) _ _ h2⟩
  | box ds =>
    cases e
    obtain ⟨p, rfl, ⟨xs, h1, h2, h3⟩, _⟩ := h
    rw [Rep]
    exact ⟨p, xs, rfl, by rw [plusL_in (hp p (ownA_mem.mpr ⟨rfl, rfl⟩))]; exact h1, Reps.ext (plusL_ext S hL) _ _ h2⟩
  | ownD ds =>
    cases e
    obtain ⟨p, rfl, ⟨xs, h1, h2, h3⟩, _⟩ := h
    rw [Rep]
    exact ⟨p, xs, rfl, by rw [plusL_in (hp p (ownA_mem.mpr ⟨rfl, rfl⟩))]; exact h1, RepK.ext (plusL_ext S hL) _ _ h2⟩
theorem StOk.plusT {d : D} {es : List R} (S : StOk K B F H E T) (hE : E.map (·.1) = es) (hm : (r, u) ∈ T) (hv : view es r = some d) (hL : ∀ p ∈ L, p ∈ ownAll E T) (hL2 : ∀ p ∈ ownAll E T, p ∈ L) : Rep K (plusL F H L) d u := by
  rcases S.entT _ hm with q | ⟨j, r', e, q, ho⟩
  · have hd : r.data = some d := by
      cases r with
      | loc j => exact q.elim
      | any => cases hv
      | imm _ => exact hv
      | own _ => exact hv
      | box _ => exact hv
      | ownD _ => exact hv
    exact q.plus hd S hL fun p hp => hL2 p (List.mem_append_right _ (List.mem_flatMap.mpr ⟨_, hm, hp⟩))
  · have e : r = .loc j := e
    subst e
    subst hE
    have hv : (match (E.map (·.1))[j]? with
      | some r => r.data
      | none => none) = some d := hv
    rw [List.getElem?_map, q] at hv
    have hm' := List.mem_of_getElem? q
    rcases S.entE _ hm' with h' | ⟨w, e, h'⟩
    · have h' : r' = .any := h'
      subst h'; cases ho
    · cases e
      exact EntO.plus h' hv S hL fun p hp => hL2 p (List.mem_append_left _ (List.mem_flatMap.mpr ⟨_, hm', hp⟩))
/-- the parts that stand still when the lists at L are no longer such -/
theorem lessL_rd {F2 : Hp} (hk : ∀ p ∈ L, (∃ xs, F2 p = some (.lst xs)) ∨ ∃ xs, F2 p = some (.dK xs)) : ∀ a u, Rd F2 a u → (∃ xs, u = .tup xs) → Rd (lessL F2 L) a u := fun a u h ⟨xs, e⟩ => by
  subst e
  have ha : a ∉ L := fun z => by
    rcases h with h | ⟨o, h⟩ <;> rcases hk a z with ⟨ys, q⟩ | ⟨ys, q⟩ <;> (rw [h] at q; cases q)
  rcases h with h | ⟨o, h⟩
  · exact .inl (by rw [lessL_out ha]; exact h)
  · exact .inr ⟨o, by rw [lessL_out ha]; exact h⟩
theorem EntO.less {B' : Bas} {F2 : Hp} (hk : ∀ p ∈ L, (∃ xs, F2 p = some (.lst xs)) ∨ ∃ xs, F2 p = some (.dK xs)) (hr : r.flat = true) (h : EntO K B' F2 H' r u) : EntO K B' (lessL F2 L) H' r u := by
  cases r with
  | any => cases hr
  | loc j => cases hr
  | box ds => cases hr
  | ownD ds => cases hr
  | imm d => exact Rep.cut (lessL_rd hk) d u hr h
  | own ds =>
    obtain ⟨p, e, ⟨xs, h1, h2, h3⟩, h4⟩ := h
    refine ⟨p, e, ⟨xs, h1, Reps.cutF (lessL_rd hk) ds xs hr h2, ?_⟩, h4⟩
    by_cases hp : p ∈ L
    · exact lessL_in hp
    · rw [lessL_out hp]; exact h3
theorem R.flat_res (h : r.flat = true) : r.res = true := by cases r <;> first | rfl | cases h
/-- behind such a call -/
theorem StOk.back0V {F2 : Hp} (S : StOk K B F H E T) (hL : ∀ p ∈ L, p ∈ ownAll E T) (S' : StOk K (entB H (plusL F H L) [] B.lk) F2 H' [] [(r, u)]) (hr : r.flat = true) : ∃ F', Ext F F' ∧ StOk K B F' H' E ((r, u) :: T) := by
  have hk : ∀ p ∈ L, (∃ xs, F2 p = some (.lst xs)) ∨ ∃ xs, F2 p = some (.dK xs) := fun p hp => by
    rcases (S.kindAll (hL p hp)).1 with ⟨xs, h⟩ | ⟨xs, h⟩
    · exact .inl ⟨xs, S'.sup _ _ (by show plusL F H L p = _; rw [plusL_in hp]; exact h)⟩
    · exact .inr ⟨xs, S'.sup _ _ (by show plusL F H L p = _; rw [plusL_in hp]; exact h)⟩
  have x : Ext F (lessL F2 L) := fun a o h => by
    have ha : a ∉ L := fun z => by
      have := (S.kindAll (hL a z)).2.1
      rw [this] at h; cases h
    rw [lessL_out ha]
    exact S'.sup _ _ (plusL_ext S hL _ _ h)
  refine ⟨lessL F2 L, x, StOk.back0 S ?_ x (R.flat_res hr)⟩
  refine ⟨fun a o h => ?_, x, fun a o h => ?_, S'.keep, fun a h => by simp at h, fun a ob h => ?_, fun y h => by simp at h, fun y hy => ?_, ?_⟩
  · by_cases ha : a ∈ L
    · rw [lessL_in ha] at h; cases h
    · rw [lessL_out ha] at h; exact S'.le a o h
  · by_cases ha : a ∈ L
    · rw [lessL_in ha] at h; cases h
    · rw [lessL_out ha] at h
      rcases S'.new a o h with h | h
      · have h : plusL F H L a = some o := h
        rw [plusL_out ha] at h
        exact .inl h
      · exact .inr h
  · obtain ⟨kvs, hk⟩ := S.lkd a ob h
    exact ⟨kvs, x _ _ hk⟩
  · simp at hy; subst hy
    have hO := (S'.entT _ List.mem_cons_self).noloc (R.res_noLoc (R.flat_res hr))
    have hO2 := hO.less (L := L) hk hr
    refine .inl ?_
    cases r with
    | any => cases hr
    | loc j => cases hr
    | box ds => cases hr
    | ownD ds => cases hr
    | imm d => exact hO2
    | own ds => exact hO2
  · exact S'.dis
end

/-! ### defs by their names -/
/-- every parameter is given -/
def Bd (fd : FuncData) (ps : List Str) : Prop := ∀ (s : Shared) (us : List Value), us.length = ps.length → BindsTo s fd ⟨us, []⟩ (ps.zip us)
theorem Bd.binds {K : PySem.W.Frag} {fd : FuncData} {ps : List Str} (h : Bd fd ps) : Binds K fd ps [] := fun s us _ hl => by
  rw [List.append_nil] at hl ⊢
  exact h s us hl
def Cal (P : Program) (w : World) (K : PySem.W.Frag) (mg : Str → Option Value) (base : Heap) (k : Nat) (x : Str) (ps : List Str) (sp : Sp) : Prop :=
  ∃ f fd, FnOk P w K mg base CX0 k f fd ps sp ∧ mg x = some (.ref f) ∧ PySem.W.keepIn K (.ref f) = true ∧ Bd fd ps
def DefAt (K : PySem.W.Frag) (mg : Str → Option Value) (x : Str) (st : Stmt) (ps : List Str) : Prop := ∃ f fd, Fun K x x st f fd ∧ mg x = some (.ref f) ∧ Bd fd ps
theorem Cal.mono {P : Program} {w : World} {K : PySem.W.Frag} {mg : Str → Option Value} {base : Heap} {k k' : Nat} {x : Str} {ps : List Str} {sp : Sp} (C : Cal P w K mg base k x ps sp) (h : k ≤ k') : Cal P w K mg base k' x ps sp := by
  obtain ⟨f, fd, h1, h2, h3, h4⟩ := C
  exact ⟨f, fd, h1.mono h, h2, h3, h4⟩
section
variable {P : Program} {w : World} {K : PySem.W.Frag} {mg : Str → Option Value} {base : Heap} {k : Nat} {ps N : List Str} {x : Str} {st : Stmt}
theorem cal_p {S : List D → R → Prop} (Df : DefAt K mg x st ps) (Sc : FnScope N ps (defScope st)) (hlen : ∀ ds r, S ds r → ds.length = ps.length)
    (hbody : ∀ (f : Addr) (cdv : Value) (A : Around) (outer : List Env) (s : Shared) (H : Hp) (E : XK), Room k (A.deeper (envOfC x (defScope st) s.heap.objs.size f cdv)) → ∀ ds r, S ds r → r.res = true →
      SV (cxOf CX0 P w K mg base N x (defScope st) f cdv A outer s H E).nox (slots N (ds.map R.imm)) (defBody st) { nx := fun _ => r = .imm .non, rt := fun _ r' => r' = r }) :
    Cal P w K mg base (k + 1) x ps (spP K S) := by
  obtain ⟨f, fd, h1, h2, h3⟩ := Df
  exact ⟨f, fd, fn_p h1 Sc hlen fun cdv A outer s H E hr ds r hS => hbody f cdv A outer s H E hr ds r hS, h2, h1.kp, h3⟩
theorem cal_b {S : List D → List D → R → List D → Prop} (Df : DefAt K mg x st ps) (Sc : FnScope N ps (defScope st)) (hlen : ∀ bs ds r bs', S bs ds r bs' → ds.length + 1 = ps.length)
    (hbody : ∀ (f : Addr) (cdv : Value) (A : Around) (outer : List Env) (s : Shared) (H : Hp) (E : XK), Room k (A.deeper (envOfC x (defScope st) s.heap.objs.size f cdv)) → ∀ bs ds r bs', S bs ds r bs' → r.res = true →
      SV (cxOf CX0 P w K mg base N x (defScope st) f cdv A outer s H E).nox (slots N (.box bs :: ds.map R.imm)) (defBody st) { nx := fun e => r = .imm .non ∧ e[0]? = some (.box bs'), rt := fun e r' => r' = r ∧ e[0]? = some (.box bs') }) :
    Cal P w K mg base (k + 1) x ps (spB K S) := by
  obtain ⟨f, fd, h1, h2, h3⟩ := Df
  exact ⟨f, fd, fn_b h1 Sc hlen fun cdv A outer s H E hr bs ds r bs' hS => hbody f cdv A outer s H E hr bs ds r bs' hS, h2, h1.kp, h3⟩
end
section
variable {X : Cx} {es es1 es2 es3 : List R} {e a b c : Expr} {r ra rb : R} {pos : Pos} {k : Nat} {ps : List Str} {x : Str} {p : Pos} {as : List Expr} {rs : List R} {ds : List D}
theorem ev_c {S : List D → R → Prop} (C : Cal X.prog X.w X.K X.mg X.base k x ps (spP X.K S)) (hr : Room k X.A) (ha : AV X es (a :: as) es1 rs) (hS : S ds r) (hd : rs.map immD = ds.map some := by rfl) (hres : r.res = true := by rfl) (hg : Gl X x := by rfl)
    (hdb : (x == ("__debug__" : Str)) = false := by decide) (he : starEach (a :: as) X.env = (false, eval a X.env) :: starEach as X.env := by rfl) (hpl : (backTo pos (starEach as X.env)).any (·.1) = false := by rfl) :
    EV X es (.Call (.Name x p) (a :: as) [] pos) es1 r := by
  obtain ⟨f, fd, h1, h2, h3, h4⟩ := C
  exact ev_call h1 hr h2 h3 h4.binds ha hd hS hres hg hdb he hpl
theorem ev_c0 {S : List D → R → Prop} (C : Cal X.prog X.w X.K X.mg X.base k x ps (spP X.K S)) (hr : Room k X.A) (hS : S [] r) (hres : r.res = true := by rfl) (hg : Gl X x := by rfl) (hdb : (x == ("__debug__" : Str)) = false := by decide) :
    EV X es (.Call (.Name x p) [] [] pos) es r := by
  obtain ⟨f, fd, h1, h2, h3, h4⟩ := C
  exact ev_call0 h1 hr h2 h3 h4.binds hS hres hg hdb
/-- the box's slot j -/
theorem ev_cb {S : List D → List D → R → List D → Prop} (C : Cal X.prog X.w X.K X.mg X.base k x ps (spB X.K S)) (hr : Room k X.A) {j : Nat} {r0 : R} {bs bs' : List D}
    (ha : AV X es (a :: as) es1 (.loc j :: rs)) (hbx : IsBx r0 bs) (hS : S bs ds r bs') (hj : es1[j]? = some r0 := by rfl) (hd : rs.map immD = ds.map some := by rfl) (hres : r.res = true := by rfl) (hg : Gl X x := by rfl)
    (hdb : (x == ("__debug__" : Str)) = false := by decide) (he : starEach (a :: as) X.env = (false, eval a X.env) :: starEach as X.env := by rfl) (hpl : (backTo pos (starEach as X.env)).any (·.1) = false := by rfl) :
    EV X es (.Call (.Name x p) (a :: as) [] pos) (es1.set j (r0.bx bs')) r := by
  obtain ⟨f, fd, h1, h2, h3, h4⟩ := C
  exact ev_callBx h1 hr h2 h3 h4.binds ha hj hbx hd hS hres hg hdb he hpl
theorem av_1 (h : EV X es a es1 r) (h2 : AV X es1 as es2 rs) (hs : starEach (a :: as) X.env = (false, eval a X.env) :: starEach as X.env := by rfl) : AV X es (a :: as) es2 (r :: rs) := av_cons h h2 hs
/-- arguments that are read, their owners unchanged; a result without lists within -/
theorem reps_view {B : Bas} {F H : Hp} {E : EL} {L : List Addr} (hE : E.map (·.1) = es) : ∀ {rs : List R} {ds : List D} {vs : List V} {T : TL}, rs.map (view es) = ds.map some → vs.length = rs.length → (∀ p ∈ L, p ∈ ownAll E ((rs.zip vs).reverse ++ T)) → (∀ p ∈ ownAll E ((rs.zip vs).reverse ++ T), p ∈ L) → StOk X.K B F H E ((rs.zip vs).reverse ++ T) → Reps X.K (plusL F H L) ds vs
  | [], ds, vs, T, h, hl, hL, hL2, S => by
    cases ds with
    | nil => cases vs with
      | nil => exact Reps.nil
      | cons _ _ => simp at hl
    | cons _ _ => simp at h
  | r :: rs, ds, vs, T, h, hl, hL, hL2, S => by
    cases ds with
    | nil => simp at h
    | cons d ds =>
      cases vs with
      | nil => simp at hl
      | cons v vs =>
        rw [List.map_cons, List.map_cons] at h
        injection h with h1 h2
        rw [List.zip_cons_cons, List.reverse_cons, List.append_assoc] at S hL hL2
        exact Reps.cons (S.plusT hE (by simp) h1 hL hL2) (reps_view hE (T := [(r, v)] ++ T) h2 (by simpa using hl) hL hL2 S)
/-- a call that reads its arguments, their owners unchanged; a result without lists within -/
theorem ev_cV {S : List D → R → Prop} (C : Cal X.prog X.w X.K X.mg X.base k x ps (spP X.K S)) (hr : Room k X.A) (ha : AV X es (a :: as) es1 rs) (hS : S ds r) (hd : rs.map (view es1) = ds.map some := by rfl) (hres : r.flat = true := by rfl) (hg : Gl X x := by rfl)
    (hdb : (x == ("__debug__" : Str)) = false := by decide) (he : starEach (a :: as) X.env = (false, eval a X.env) :: starEach as X.env := by rfl) (hpl : (backTo pos (starEach as X.env)).any (·.1) = false := by rfl) :
    EV X es (.Call (.Name x p) (a :: as) [] pos) es1 r := by
  obtain ⟨f, fd, h1, h2, h3, h4⟩ := C
  exact fun B F H E T Q hE S0 kk =>
    of_pe (pe_call h1 hr hg h2 h3 h4.binds .nil pass0 pa_w hdb he hpl) (ha B F H E T _ hE S0 fun vs F1 H1 E1 x1 e1 f1 hl S1 => by
      have hL : ∀ p ∈ ownAll E1 ((rs.zip vs).reverse ++ T), p ∈ ownAll E1 ((rs.zip vs).reverse ++ T) := fun _ h => h
      refine ⟨_, B.lk, ds, r, S1.enterV hL, ?_, hS, R.flat_res hres, fun v F' H' x' S' => ?_⟩
      · rw [List.append_nil]; exact reps_view e1 hd hl hL hL S1
      · obtain ⟨F3, x3, S3⟩ := S1.back0V hL S' hres
        exact kk v F3 H' E1 (x1.trans x3) e1 f1 S3.drop1)
end
end DL

set_option maxRecDepth 100000
set_option maxHeartbeats 1000000
/-! The data layer: the law's own end. -/
namespace DL
open PySem L2
open PyProof.Rows hiding St
/-- law's promise: a list of at most 63 ints is handed in, True comes out -/
def spLaw (K : PySem.W.Frag) : Sp := fun vs H Q _ => ∃ (a : Addr) (ns : List Int), vs = [.ref a] ∧ SqL K H a (ns.map V.int) ∧ ns.length ≤ 63 ∧ ∀ H', Q (.bl true) H'
def SLaw (ds : List D) (r : R) : Prop := ∃ ns : List Int, ds = [.scr ns] ∧ ns.length ≤ 63 ∧ r = .imm (.bl true)
open Classical in
theorem law_of {P : Program} {w : World} {K : PySem.W.Frag} {mg : Str → Option Value} {base : Heap} {k : Nat} {f : Addr} {fd : FuncData} (h1 : FnOk P w K mg base CX0 k f fd ["script"] (spP K SLaw)) : FnOk P w K mg base CX0 k f fd ["script"] (spLaw K) := by
  refine h1.imp fun vs H Q E ⟨a, ns, e, hs, hl, hq⟩ => ?_
  subst e
  refine ⟨fun b => if b = a then H a else none, fun _ => none, [.scr ns], .imm (.bl true), ?_, Reps.cons ?_ Reps.nil, ⟨ns, rfl, hl, rfl⟩, rfl, fun v F' H' _ S' => ?_⟩
  · refine ⟨fun b o h => ?_, Ext.refl _, fun b o h => .inl h, fun b o h _ => .inl ⟨rfl, h⟩, fun b h => by simp at h, fun b ob h => (by cases h), fun x h => by simp at h, fun x h => by simp at h, by simp⟩
    have h : (if b = a then H a else none) = some o := h
    split at h
    · rename_i e; subst e; exact h
    · cases h
  · rw [Rep]
    refine ⟨a, rfl, ?_⟩
    rcases hs with hs | hs
    · refine .inl ?_
      rcases hs with hs | ⟨o, hs⟩
      · exact .inl (by show (if a = a then H a else none) = _; rw [if_pos rfl]; exact hs)
      · exact .inr ⟨o, by show (if a = a then H a else none) = _; rw [if_pos rfl]; exact hs⟩
    · exact .inr hs
  · rw [S'.topBl]; exact hq H'
/-- the law's def with its end -/
theorem law_end {P : Program} {w : World} {K : PySem.W.Frag} {mg : Str → Option Value} {st : Stmt} {k : Nat} {fa : Addr} (D : DefAt K mg "law" st ["script"]) (hfa : mg "law" = some (.ref fa))
    (C : ∀ base f fd, Fun K "law" "law" st f fd → mg "law" = some (.ref f) → FnOk P w K mg base CX0 k f fd ["script"] (spP K SLaw)) :
    ∃ fd : FuncData, (∀ (s : Shared) (v : Value), BindsTo s fd ⟨[v], []⟩ [("script", v)]) ∧ ∀ base : Heap, K.In base → base.Ns mainGlobals mg → FnOk P w K mg base CX0 k fa fd ["script"] (spLaw K) := by
  obtain ⟨f, fd, h1, h2, h3⟩ := D
  rw [hfa] at h2
  cases h2
  exact ⟨fd, fun s v => h3 s [v] rfl, fun base _ _ => law_of (C base fa fd h1 hfa)⟩
end DL

set_option maxRecDepth 100000
set_option maxHeartbeats 1000000
/-! The helpers that all laws share: what they reckon. -/
namespace DL
open PySem L2
theorem Wk.eq {x y : R} {l l' : List R} (e : x = y) (h : Wk l l') : Wk (x :: l) (y :: l') := e ▸ h.same
theorem atI_pos {α : Type} {xs : List α} {i : Int} {d : α} (h0 : 0 ≤ i) (h1 : i < xs.length) : atI xs i = some (xs.getD i.toNat d) := by
  have h2 : i.toNat < xs.length := by omega
  have e : ((i.toNat : Nat) : Int) = i := by omega
  have h3 : atI xs ((i.toNat : Nat) : Int) = some xs[i.toNat] := atI_nat (by simp [h2])
  rw [e] at h3
  rw [h3]
  simp [h2]
theorem at_scr {ns : List Int} {k : Int} (h0 : 0 ≤ k) (h1 : k < ns.length) : (D.scr ns).at k = some (.int (ns.getD k.toNat 0)) := by
  show (atI ns k).map D.int = _
  rw [atI_pos h0 h1]; rfl
theorem at_0 {d : D} {ds : List D} : (D.lst (d :: ds)).at 0 = some d := by
  show atI (d :: ds) ((0 : Nat) : Int) = _
  exact atI_nat rfl
theorem at_1 {d d' : D} {ds : List D} : (D.lst (d :: d' :: ds)).at 1 = some d' := by
  show atI (d :: d' :: ds) ((1 : Nat) : Int) = _
  exact atI_nat rfl
theorem at_ints {ns : List Int} {k : Int} (h0 : 0 ≤ k) (h1 : k < ns.length) : (D.lst (ns.map D.int)).at k = some (.int (ns.getD k.toNat 0)) := by
  show atI (ns.map D.int) k = _
  exact atI_map (by rw [atI_pos h0 h1])
/-! ### what they reckon -/
def cell (ns : List Int) (k : Int) : Int := if k < ns.length then ns.getD k.toNat 0 else 0
def SCell (ds : List D) (r : R) : Prop := ∃ ns k, ds = [.scr ns, .int k] ∧ 0 ≤ k ∧ r = .imm (.int (cell ns k))
def dr (ns : List Int) (c m : Int) : Int := if c + 1 > ns.length then ((c + 1) * 7 + 3).fmod m else (ns.getD c.toNat 0).fmod m
def bx (ns : List Int) (c : Int) : List D := [.lst (ns.map D.int), .int c]
def SDraw (bs ds : List D) (r : R) (bs' : List D) : Prop := ∃ ns c m, bs = bx ns c ∧ ds = [.int m] ∧ 0 ≤ c ∧ m ≠ 0 ∧ r = .imm (.int (dr ns c m)) ∧ bs' = bx ns (c + 1)
def SPick (bs ds : List D) (r : R) (bs' : List D) : Prop := ∃ ns c d n x, bs = bx ns c ∧ ds = [d] ∧ 0 ≤ c ∧ d.len = some n ∧ n ≠ 0 ∧ d.at ((dr ns c 1000).fmod n) = some x ∧ r = .imm x ∧ bs' = bx ns (c + 1)
/-- the figures of a great number -/
def hugeI : Int × List Int → Int × List Int := fun s => if s.1 > 0 then (s.1.fdiv 1000, s.2 ++ [s.1.fmod 1000]) else s
def hugeN : Nat → Int × List Int → Int × List Int
  | 0, s => s
  | n + 1, s => hugeI (hugeN n s)
def seedN (cell k : Int) : Nat → List Int → Int × List Int
  | 0, acc => ((cell * 48271 + k * 69621 + 11).fmod 2147483647, acc)
  | n + 1, acc => let s := seedN cell k n acc; let z := (s.1 * 16807 + 7 * (n : Int) + 1).fmod 2147483647; (z, s.2 ++ [(z.fdiv 997).fmod 1000])
def digOne (ns : List Int) (k : Int) (acc : List Int) : List Int :=
  let c := cell ns k
  let c := if c < 0 then 1 - 2 * c else c
  if c ≥ 10 ^ 18 then (hugeN 60 (c, acc)).2 else (seedN c k 12 acc).2
def digN (ns : List Int) (a : Int) : Nat → List Int
  | 0 => []
  | n + 1 => digOne ns (a + (n : Nat)) (digN ns a n)
def SDig (ds : List D) (r : R) : Prop := ∃ ns a b, ds = [.scr ns, .int a, .int b] ∧ 0 ≤ a ∧ a ≤ b ∧ b ≤ 1000 ∧ r = .own ((digN ns a (b - a).toNat).map D.int)
theorem hugeN_len : ∀ (n : Nat) (s : Int × List Int), (hugeN n s).2.length ≤ s.2.length + n
  | 0, s => Nat.le_refl _
  | n + 1, s => by
    have := hugeN_len n s
    unfold hugeN hugeI
    split <;> simp <;> omega
theorem seedN_len (c k : Int) : ∀ (n : Nat) (acc : List Int), (seedN c k n acc).2.length = acc.length + n
  | 0, acc => rfl
  | n + 1, acc => by
    have := seedN_len c k n acc
    unfold seedN
    simp; omega
theorem digOne_len (ns : List Int) (k : Int) (acc : List Int) : (digOne ns k acc).length ≤ acc.length + 60 := by
  unfold digOne
  dsimp only
  generalize (if cell ns k < 0 then 1 - 2 * cell ns k else cell ns k) = c
  split
  · exact hugeN_len 60 _
  · rw [seedN_len]; omega
theorem digN_len (ns : List Int) (a : Int) : ∀ n, (digN ns a n).length ≤ 60 * n
  | 0 => Nat.le_refl _
  | n + 1 => by
    have := digN_len ns a n
    have := digOne_len ns (a + (n : Nat)) (digN ns a n)
    unfold digN; omega
end DL
namespace DL
open PySem L2
mutual
/-- what _law_same can look through -/
def D.ok : D → Bool
  | .non => true
  | .bl _ => true
  | .int i => decide (i.natAbs.log2 < 1920)
  | .str s => decide ((reprText s).length ≤ 1000000)
  | .tup ds => decide (ds.length ≤ 1000000) && oks ds
  | .lst ds => decide (ds.length ≤ 1000000) && oks ds
  | .scr _ => false
  | .dic _ => false
  | .ty _ => false
def oks : List D → Bool
  | [] => true
  | d :: ds => d.ok && oks ds
end
mutual
def D.dep : D → Nat
  | .tup ds => deps ds + 1
  | .lst ds => deps ds + 1
  | _ => 0
def deps : List D → Nat
  | [] => 0
  | d :: ds => max d.dep (deps ds)
end
theorem oks_mem : ∀ {ds : List D} {d : D}, oks ds = true → d ∈ ds → d.ok = true
  | e :: ds, d, h, hm => by
    rw [oks, Bool.and_eq_true] at h
    rcases List.mem_cons.mp hm with rfl | hm
    · exact h.1
    · exact oks_mem h.2 hm
theorem deps_mem : ∀ {ds : List D} {d : D}, d ∈ ds → d.dep ≤ deps ds
  | e :: ds, d, hm => by
    rw [deps]
    rcases List.mem_cons.mp hm with rfl | hm
    · exact Nat.le_max_left _ _
    · exact Nat.le_trans (deps_mem hm) (Nat.le_max_right _ _)
def SSame (n : Nat) (ds : List D) (r : R) : Prop := ∃ d, ds = [d, d] ∧ d.ok = true ∧ d.dep ≤ n ∧ r = .imm (.bl true)
theorem at_lst {ds : List D} {k : Nat} {d : D} (h : ds[k]? = some d) : (D.lst ds).at (k : Int) = some d := by
  show atI ds (k : Int) = _
  exact atI_nat h
theorem at_tup {ds : List D} {k : Nat} {d : D} (h : ds[k]? = some d) : (D.tup ds).at (k : Int) = some d := by
  show atI ds (k : Int) = _
  exact atI_nat h
section
variable {X : Cx} {es es1 es2 es3 : List R} {e a b c o : Expr} {r ra rb : R} {pos apos p : Pos}
theorem ev_isn {x : Str} (m : String) (q : Bool) {d : D} {n : String} (ha : EV X es a es1 ra) (hT : X.mg x = none) (hm : X.mg "isinstance" = none) (va : view es1 ra = some d := by rfl) (hn : d.tyName = some n := by rfl) (hv : bootBuiltins x = some (.type m) := by decide +kernel) (hq : kitB n m = some q := by decide +kernel) (hg : Gl X x := by rfl) (hg2 : Gl X "isinstance" := by rfl)
    (hnn : x ≠ "__name__" := by decide) (hd : (x == ("__debug__" : Str)) = false := by decide)
    (he : starEach [a, .Name x pos] X.env = (false, eval a X.env) :: starEach [.Name x pos] X.env := by rfl) (he2 : starEach [.Name x pos] X.env = (false, eval (.Name x pos) X.env) :: starEach [] X.env := by rfl) : EV X es (.Call (.Name "isinstance" p) [a, .Name x pos] [] apos) es1 (.imm (.bl q)) :=
  ev_isi ha (ev_blt hg hT hv hnn hd) va hn hq hm hg2 he he2
theorem tv_v {q : Bool} (h : EV X es e es1 (.imm (.bl q))) (he : ∀ whole, isTrue e X.env whole = (do let v ← whole; standAt e.pos; holding [v] (truthy v)) := by intro _; rfl) : TV X es e es1 q := tv_val h he
end
end DL

set_option maxRecDepth 100000
set_option maxHeartbeats 1000000
/-! The data layer: more rules. -/
namespace DL
open PySem L2
open PyProof.Rows hiding St
section
variable {X : Cx} {es es1 es2 es3 : List R} {e a b c o : Expr} {r ra rb : R} {pos apos p : Pos} {i j : Int} {as : List Expr} {rs : List R} {P : Post} {rest : List Stmt}
theorem ip_mul : PIp X .Mult (fun x y H Q => ∃ i j, x = .int i ∧ y = .int j ∧ Sm i j ∧ Q (.int (i * j)) H) := by
  intro pins s σ H x y v u Q I r1 r2 h
  obtain ⟨i, j, e1, e2, hs, q⟩ := h
  subst e1; subst e2
  obtain ⟨t, rfl⟩ := r1
  obtain ⟨t', rfl⟩ := r2
  exact PySem.AutoIntOps.imul_0 ⟨.int _, H, I.tok _, ⟨_, rfl⟩, q⟩ (CMul.ok hs)
theorem v_mulI (i : Nat) {x : Str} {pos' : Pos} {m n : Int} (hN : X.N.Nodup) (h : EV X es e es1 (.imm (.int n))) (hs : Sm m n) (k : SV X (es1.set i (.imm (.int (m * n)))) rest P) (hd : es[i]? = some (.imm (.int m)) := by rfl) (hi : X.N[i]? = some x := by rfl) (hx : Loc X.env.scope x := by first | exact Or.inl rfl | exact Or.inr rfl)
    (hf : X.fn x = true ∨ X.env.scope.names.lookup x = some .local := by first | exact .inl rfl | exact .inr rfl) : SV X es (.AugAssign (.Name x pos') .Mult e pos :: rest) P :=
  v_aug i hN h ip_mul (o2_imm fun F H x y Q hx hy k => ⟨m, n, Rep.int_iff.mp hx, Rep.int_iff.mp hy, hs, k _ (Rep.int_iff.mpr rfl)⟩) k hd rfl hi hx hf
theorem v_subI (i : Nat) {x : Str} {pos' : Pos} {m n : Int} (hN : X.N.Nodup) (h : EV X es e es1 (.imm (.int n))) (k : SV X (es1.set i (.imm (.int (m - n)))) rest P) (hd : es[i]? = some (.imm (.int m)) := by rfl) (hi : X.N[i]? = some x := by rfl) (hx : Loc X.env.scope x := by first | exact Or.inl rfl | exact Or.inr rfl)
    (hf : X.fn x = true ∨ X.env.scope.names.lookup x = some .local := by first | exact .inl rfl | exact .inr rfl) : SV X es (.AugAssign (.Name x pos') .Sub e pos :: rest) P :=
  v_aug i hN h ip_sub (o2_imm fun F H x y Q hx hy k => ⟨m, n, Rep.int_iff.mp hx, Rep.int_iff.mp hy, k _ (Rep.int_iff.mpr rfl)⟩) k hd rfl hi hx hf
/-- a text, sign by sign -/
def signs (s : Str) : List D := s.cps.toList.map fun c => .str ⟨#[c]⟩
theorem iv_str {tg iter : Expr} {s : Str} (h : EV X es iter es1 (.imm (.str s))) : IV X es tg iter es1 (signs s) := fun B F H E T Rr hE S k =>
  of_pi (pi_str pe_w) (h B F H E T _ hE S fun v F1 H1 E1 x1 e1 e2 S1 => by
    have hr : Rep X.K F1 (.str s) v := (S1.entT _ List.mem_cons_self).noloc rfl
    rw [Rep.str_iff] at hr
    refine ⟨s, hr, k (Its s) [] F1 H1 E1 x1 e1 e2 (fun x hx => by simp at hx) S1.pop ?_⟩
    refine ⟨fun i d F' H' E' T' hd x' S' => ?_, fun F' H' E' T' x' S' => ?_⟩
    · unfold signs at hd
      rw [List.getElem?_map] at hd
      cases q : s.cps.toList[i]? with
      | none => rw [q] at hd; cases hd
      | some c =>
        rw [q] at hd
        have hd : D.str ⟨#[c]⟩ = d := Option.some.inj hd
        subst hd
        have q : s.cps[i]? = some c := by simpa using q
        refine ⟨(Array.getElem?_eq_some_iff.mp q).1, fun y H2 hy => ?_⟩
        obtain ⟨rfl, c', hc, rfl⟩ := hy
        rw [q] at hc
        cases hc
        exact ⟨F', Ext.refl _, StOk.imm S' (Rep.str_iff.mpr rfl)⟩
    · show s.cps.size ≤ (signs s).length
      simp [signs])
/-- l.index(x), flat things -/
def fl1 : D → Option V
  | .non => some .non
  | .bl b => some (.bl b)
  | .int i => some (.int i)
  | .str s => some (.str s)
  | _ => none
theorem fl1_rep {K : PySem.W.Frag} {F : Hp} {d : D} {v w : V} (h : fl1 d = some v) (hr : Rep K F d w) : w = v ∧ flatV v = true := by
  cases d <;> simp [fl1] at h <;> (subst h; rw [Rep] at hr; exact ⟨hr, rfl⟩)
theorem Reps.fl {K : PySem.W.Frag} {F : Hp} : ∀ {ds : List D} {vs ws : List V}, ds.map fl1 = vs.map some → Reps K F ds ws → ws = vs ∧ vs.all flatV = true
  | [], vs, ws, h, hr => by
    rw [Reps] at hr
    subst hr
    cases vs with
    | nil => exact ⟨rfl, rfl⟩
    | cons _ _ => simp at h
  | d :: ds, vs, ws, h, hr => by
    rw [Reps] at hr
    obtain ⟨x, t, rfl, h2, h3⟩ := hr
    cases vs with
    | nil => simp at h
    | cons v vs =>
      rw [List.map_cons, List.map_cons] at h
      injection h with h4 h5
      obtain ⟨rfl, f1⟩ := fl1_rep h4 h2
      obtain ⟨rfl, f2⟩ := Reps.fl h5 h3
      exact ⟨rfl, by simp [f1]; simpa using f2⟩
theorem ev_listIndexS {ys : List Str} {z : Str} {n : Nat} (ho : EV X es o es1 ra) (ha : EV X es1 a es2 (.imm (.str z))) (vo1 : view es1 ra = some (.lst (ys.map D.str))) (vo : view es2 ra = some (.lst (ys.map D.str))) (hn : ys[n]? = some z) (hno : ∀ m, m < n → ys[m]? ≠ some z)
    (hst : starEach [a] X.env = (false, eval a X.env) :: starEach [] X.env := by rfl) (hbase : attributeBase o "index" X.env (eval o X.env) = eval o X.env := by rfl) (hline : (apos.endLine == pos.line) = true := by rfl) :
    EV X es (.Call (.Attribute o "index" apos) [a] [] pos) es2 (.imm (.int (n : Int))) :=
  ev_bm PySem.F.plainAttrs_list PySem.F.slot_list_index PySem.F.type_list_index mt_index ho (av_1 ha av_nil hst) (fun B F H E T v hE S => by
      obtain ⟨l, xs, rfl, h1, _⟩ := (S.vw hE List.mem_cons_self vo1).lst S
      exact .inl ⟨rfl, xs, .inl (.inl h1)⟩)
    (fun B F H E T vs Q hE hl S k => by
      match vs, hl with
      | [x, y], _ =>
        have hx := S.vw hE (r := ra) (u := x) (by simp) vo
        have hy : Rep X.K F (.str z) y := (S.entT (.imm (.str z), y) (by simp)).noloc rfl
        rw [Rep.str_iff] at hy
        subst hy
        obtain ⟨l, xs, rfl, h1, h2⟩ := hx.lst S
        have h2 := Reps.strs.mp h2
        subst h2
        refine ⟨.ref l, [.str z], rfl, l, ys.map V.str, .str z, n, .str z, rfl, rfl, .inl (.inl h1), rfl, by simp [flatV], by rw [List.getElem?_map, hn]; rfl, by simp [eqV], fun m z' hm hz' => ?_, S.ret1 (Rep.int_iff.mpr rfl) k⟩
        rw [List.getElem?_map] at hz'
        cases q : ys[m]? with
        | none => rw [q] at hz'; cases hz'
        | some w =>
          rw [q] at hz'
          cases hz'
          have : w ≠ z := fun e => hno m hm (e ▸ q)
          simp [eqV, this]) hbase (by rw [hst]; rfl) hline hst (by rfl)
/-- a written tuple of texts that a name of the module holds -/
structure GTup (K : PySem.W.Frag) (mg : Str → Option Value) (x : Str) (ys : List Str) : Prop where
  at_ : ∃ (a : Addr) (ob : Obj) (its : Array Value) (n : Nat), mg x = some (.ref a) ∧ K.lookup a = some ob ∧ ob.cls = .type "tuple" ∧ ob.dict = none ∧ ob.data = .seq its n ∧ its.size ≤ sizeLine ∧ Vals (ys.map V.str) its.toList
theorem ev_gtup {x : Str} {ys : List Str} (G : GTup X.K X.mg x ys) (hg : Gl X x := by rfl) (hd : (x == ("__debug__" : Str)) = false := by decide) : EV X es (.Name x pos) es (.imm (.tup (ys.map D.str))) := by
  obtain ⟨l, ob, its, n, h1, h2, h3, h4, h5, h6, h7⟩ := G.at_
  refine ev_glob (v := .ref l) h1 rfl (fun F => ?_) hg hd
  rw [Rep]
  exact ⟨l, ys.map V.str, rfl, .inr ⟨ob, its, n, h2, h3, h5, h6, h7⟩, Reps.strs.mpr rfl⟩
theorem ev_gtupIndex {x : Str} {ys : List Str} {z : Str} {n : Nat} {xp : Pos} (G : GTup X.K X.mg x ys) (ha : EV X es a es1 (.imm (.str z))) (hn : ys[n]? = some z) (hno : ∀ m, m < n → ys[m]? ≠ some z) (hg : Gl X x := by rfl) (hd : (x == ("__debug__" : Str)) = false := by decide)
    (hst : starEach [a] X.env = (false, eval a X.env) :: starEach [] X.env := by rfl) (hbase : attributeBase (.Name x xp) "index" X.env (eval (.Name x xp) X.env) = eval (.Name x xp) X.env := by rfl) (hline : (apos.endLine == pos.line) = true := by rfl) :
    EV X es (.Call (.Attribute (.Name x xp) "index" apos) [a] [] pos) es1 (.imm (.int (n : Int))) := by
  obtain ⟨l, ob, its, m, h1, h2, h3, h4, h5, h6, h7⟩ := G.at_
  have hpl : (backTo pos (starEach [] X.env)).any (·.1) = false := rfl
  exact fun B F H E T Q hE S k =>
    of_pe (pe_bm PySem.F.plainAttrs_tuple PySem.F.slot_tuple_index PySem.F.type_tuple_index mt_tup_index (pe_glob (v := .ref l) hg h1 rfl hd) (pa_cons pe_w pa_nil hst) hbase (by rw [hst]; rfl) hline hst hpl) ⟨.inr (.inl ⟨rfl, ob, h2, h3, h4⟩), by
      show wE X a _ _ _
      refine ha B F H E T _ hE S fun y F1 H1 E1 x1 e1 f1 S1 => ?_
      have hy : Rep X.K F1 (.str z) y := (S1.entT (.imm (.str z), y) (by simp)).noloc rfl
      rw [Rep.str_iff] at hy
      subst hy
      exact ⟨l, ys, z, n, rfl, rfl, .inr ⟨ob, its, m, h2, h3, h5, h6, h7⟩, hn, hno, k _ F1 H1 E1 x1 e1 f1 (S1.pop.imm (Rep.int_iff.mpr rfl))⟩⟩
/-- a text that a name of the module holds -/
theorem ev_gstr {x s : Str} {t : Tok} (h : X.mg x = some (.str s t)) (hg : Gl X x := by rfl) (hd : (x == ("__debug__" : Str)) = false := by decide) : EV X es (.Name x pos) es (.imm (.str s)) :=
  ev_glob (v := .str s) h ⟨t, rfl⟩ (fun F => Rep.str_iff.mpr rfl) hg hd
end
end DL

set_option maxRecDepth 100000
set_option maxHeartbeats 1000000
/-! The data layer: comprehensions in short, chains as values, deep equality. -/
namespace DL
open PySem L2
open PyProof.Rows hiding St
section
variable {X : Cx} {es es1 es2 es3 : List R} {e a b c o : Expr} {r ra rb : R} {pos apos p : Pos} {i j : Int} {as : List Expr} {rs : List R} {P : Post} {rest : List Stmt}
theorem ev_chain {op op' : CmpOp} {q q' : R2} {rc : R} {p p' : Bool} (ho : OpR X (compareOp op) q) (ho' : OpR X (compareOp op') q') (ha : EV X es a es1 ra) (hb : EV X es1 b es2 rb) (h : O2 X es2 q ra rb (.imm (.bl p)))
    (hc : p = true → EV X es2 c es2 rc) (h' : p = true → O2 X es2 q' rb rc (.imm (.bl p'))) (hl : lastMarks [op, op'] [b, c] = false) : EV X es (.Compare a [op, op'] [b, c] pos) es2 (.imm (.bl (p && p'))) :=
  fun B F H E T Q hE S k => of_pe (pe_chain ho ho' pe_w pe_w pe_w hl) (by
    show tChain q q' (wE X a) (wE X b) (wE X c) _ _ _
    refine ha B F H E T _ hE S fun x F1 H1 E1 x1 e1 f1 S1 => ?_
    have := hb B F1 H1 E1 _ (fun y H2 => q x y H2 fun z H3 => ∃ k', z = .bl k' ∧ if k' = true then wE X c (E.map (·.2)) H3 fun w H4 => q' y w H4 Q else Q (V.bl false) H3) e1 S1 fun y F2 H2 E2 x2 e2 f2 S2 => ?_
    · rw [f1] at this; exact this
    · refine h B F2 H2 E2 T x y _ e2 S2 fun v F3 H3 x3 S3 => ?_
      refine ⟨p, S3.topBl, ?_⟩
      cases hp : p with
      | true =>
        rw [if_pos rfl]
        have := hc hp B F3 H3 E2 _ (fun w H4 => q' y w H4 Q) e2 S3.pop fun w F4 H4 E4 x4 e4 f4 S4 => ?_
        · rw [f2, f1] at this; exact this
        · have S5 : StOk X.K B F4 H4 E4 ((rc, w) :: (rb, y) :: T) := S4.sub (.cons_cons _ (.cons_cons _ (List.sublist_cons_self _ _)))
          refine h' hp B F4 H4 E4 _ y w _ e4 S5 fun v F6 H6 x6 S6 => ?_
          have := k v F6 H6 E4 (x1.trans (x2.trans (x3.trans (x4.trans x6)))) e4 (f4.trans (f2.trans f1)) (by rw [hp]; exact S6.pop3)
          exact this
      | false =>
        rw [if_neg Bool.false_ne_true]
        have := k _ F3 H3 E2 (x1.trans (x2.trans x3)) e2 (f2.trans f1) (by rw [hp]; exact S3.pop.pop.pop.imm (Rep.bl_iff.mpr rfl))
        exact this)
/-! chains of numbers -/
theorem o2_lt : O2 X es (rI0 fun i j => V.bl (decide (i < j))) (.imm (.int i)) (.imm (.int j)) (.imm (.bl (decide (i < j)))) := o2_I0 fun _ => Rep.bl_iff.mpr rfl
theorem o2_le : O2 X es (rI0 fun i j => V.bl (decide (i ≤ j))) (.imm (.int i)) (.imm (.int j)) (.imm (.bl (decide (i ≤ j)))) := o2_I0 fun _ => Rep.bl_iff.mpr rfl
theorem ev_lele {k : Int} (ha : EV X es a es1 (.imm (.int i))) (hb : EV X es1 b es2 (.imm (.int j))) (hc : EV X es2 c es2 (.imm (.int k))) (hl : lastMarks [.LtE, .LtE] [b, c] = false := by with_unfolding_all rfl) : EV X es (.Compare a [.LtE, .LtE] [b, c] pos) es2 (.imm (.bl (decide (i ≤ j) && decide (j ≤ k)))) :=
  ev_chain op_le op_le ha hb o2_le (fun _ => hc) (fun _ => o2_le) hl
theorem tv_lele {k : Int} (ha : EV X es a es1 (.imm (.int i))) (hb : EV X es1 b es2 (.imm (.int j))) (hc : EV X es2 c es2 (.imm (.int k))) (hl : lastMarks [.LtE, .LtE] [b, c] = false := by with_unfolding_all rfl) : TV X es (.Compare a [.LtE, .LtE] [b, c] pos) es2 (decide (i ≤ j) && decide (j ≤ k)) :=
  tv_chain op_le op_le ha hb o2_le (fun _ => hc) (fun _ => o2_le) hl
theorem ev_lelt {k : Int} (ha : EV X es a es1 (.imm (.int i))) (hb : EV X es1 b es2 (.imm (.int j))) (hc : EV X es2 c es2 (.imm (.int k))) (hl : lastMarks [.LtE, .Lt] [b, c] = false := by with_unfolding_all rfl) : EV X es (.Compare a [.LtE, .Lt] [b, c] pos) es2 (.imm (.bl (decide (i ≤ j) && decide (j < k)))) :=
  ev_chain op_le op_lt ha hb o2_le (fun _ => hc) (fun _ => o2_lt) hl
theorem tv_lelt {k : Int} (ha : EV X es a es1 (.imm (.int i))) (hb : EV X es1 b es2 (.imm (.int j))) (hc : EV X es2 c es2 (.imm (.int k))) (hl : lastMarks [.LtE, .Lt] [b, c] = false := by with_unfolding_all rfl) : TV X es (.Compare a [.LtE, .Lt] [b, c] pos) es2 (decide (i ≤ j) && decide (j < k)) :=
  tv_chain op_le op_lt ha hb o2_le (fun _ => hc) (fun _ => o2_lt) hl

def notOwn (es : List R) (is : List Nat) : Bool := is.all fun i => match es[i]? with
  | some r => !r.isOwn
  | none => true
theorem notOwn_ok {is : List Nat} (h : notOwn es is = true) : ∀ i ∈ is, ∀ r, es[i]? = some r → r.isOwn = false := fun i hi r hr => by
  have := List.all_eq_true.mp h i hi
  rw [hr] at this
  simpa using this
/-! ### comprehensions whose turns leave the slots as they are -/
theorem ev_lcM {α : Type} {tg elt iter : Expr} {scope : Scope} {own : List (Str × Nat)} (xs : List α) (enc : α → D) (f : α → D) (hi : IV X es tg iter es1 (xs.map enc)) (hlen : xs.length ≤ 900000)
    (hs : ∀ (k : Nat) (x : α), xs[k]? = some x → ∃ e1 is e3, BG X scope (wipeR es1 (own.map (·.2))) tg (enc x) e1 is ∧ (∀ i ∈ is, i ∈ own.map (·.2)) ∧ BE X scope e1 elt e3 (.imm (f x)) ∧ wipeR e3 (own.map (·.2)) = wipeR es1 (own.map (·.2)))
    (hN : X.N.Nodup) (N : List Str) (sc : Scope) (hown : notOwn es1 (own.map (·.2)) = true := by rfl) (hw : wipeR (wipeR es1 (own.map (·.2))) (own.map (·.2)) = wipeR es1 (own.map (·.2)) := by rfl)
    (hc : X.calm = true := by rfl) (ok : blkC N sc scope own = true := by decide +kernel) (eN : X.N = N := by rfl) (eS : X.env.scope = sc := by rfl) (hfs : ∀ x, foldedSetIterable iter X.env x = pure x := by intro _; rfl) : EV X es (.ListComp elt [⟨tg, iter, [], 0⟩] scope pos) (wipeR es1 (own.map (·.2))) (.own (xs.map f)) :=
  ev_lc (cond := none) (fun k e acc => e = wipeR es1 (own.map (·.2)) ∧ acc = (xs.take k).map f) hi (notOwn_ok hown) ⟨rfl, by simp⟩
    ⟨fun k d e acc hd ⟨he, hacc⟩ => by
      rw [List.getElem?_map] at hd
      cases q : xs[k]? with
      | none => rw [q] at hd; cases hd
      | some x =>
        rw [q] at hd
        have hd : enc x = d := Option.some.inj hd
        subst hd
        obtain ⟨e1, is, e3, h1, h2, h3, h4⟩ := hs k x q
        refine ⟨by rw [hacc, List.length_map, List.length_take]; omega, e1, is, by rw [he]; exact h1, h2, e3, f x, h3, h4, ?_⟩
        rw [hacc, List.take_succ, q, List.map_append]; rfl⟩
    (fun e acc ⟨he, hacc⟩ => ⟨by rw [he]; exact hw, by rw [hacc, List.length_map, List.take_length]⟩) hc hN (by rw [eN, eS]; exact blkOk_by ok) hfs
theorem ev_lcF {α : Type} {tg elt iter cond : Expr} {scope : Scope} {own : List (Str × Nat)} (xs : List α) (enc : α → D) (p : α → Bool) (f : α → D) (hi : IV X es tg iter es1 (xs.map enc)) (hlen : xs.length ≤ 900000)
    (hs : ∀ (k : Nat) (x : α), xs[k]? = some x → ∃ e1 is e2, BG X scope (wipeR es1 (own.map (·.2))) tg (enc x) e1 is ∧ (∀ i ∈ is, i ∈ own.map (·.2)) ∧ BT X scope e1 cond e2 (p x) ∧ wipeR e2 (own.map (·.2)) = wipeR es1 (own.map (·.2)) ∧ (p x = true → ∃ e3, BE X scope e2 elt e3 (.imm (f x)) ∧ wipeR e3 (own.map (·.2)) = wipeR es1 (own.map (·.2))))
    (hN : X.N.Nodup) (N : List Str) (sc : Scope) (hown : notOwn es1 (own.map (·.2)) = true := by rfl) (hw : wipeR (wipeR es1 (own.map (·.2))) (own.map (·.2)) = wipeR es1 (own.map (·.2)) := by rfl)
    (hc : X.calm = true := by rfl) (ok : blkC N sc scope own = true := by decide +kernel) (eN : X.N = N := by rfl) (eS : X.env.scope = sc := by rfl) (hfs : ∀ x, foldedSetIterable iter X.env x = pure x := by intro _; rfl) : EV X es (.ListComp elt [⟨tg, iter, [cond], 0⟩] scope pos) (wipeR es1 (own.map (·.2))) (.own ((xs.filter p).map f)) :=
  ev_lc (cond := some cond) (fun k e acc => e = wipeR es1 (own.map (·.2)) ∧ acc = ((xs.take k).filter p).map f) hi (notOwn_ok hown) ⟨rfl, by simp⟩
    ⟨fun k d e acc hd ⟨he, hacc⟩ => by
      rw [List.getElem?_map] at hd
      cases q : xs[k]? with
      | none => rw [q] at hd; cases hd
      | some x =>
        rw [q] at hd
        have hd : enc x = d := Option.some.inj hd
        subst hd
        obtain ⟨e1, is, e2, h1, h2, h3, h4, h5⟩ := hs k x q
        have hz : acc.length < 1000000 := by
          rw [hacc, List.length_map]
          have := List.length_filter_le p (xs.take k)
          rw [List.length_take] at this
          omega
        refine ⟨hz, e1, is, by rw [he]; exact h1, h2, e2, p x, h3, fun hp => ⟨h4, ?_⟩, fun hp => ?_⟩
        · rw [hacc, List.take_succ, q, List.filter_append]
          simp [hp]
        · obtain ⟨e3, h6, h7⟩ := h5 hp
          refine ⟨e3, f x, h6, h7, ?_⟩
          rw [hacc, List.take_succ, q, List.filter_append, List.map_append]
          simp [hp]⟩
    (fun e acc ⟨he, hacc⟩ => ⟨by rw [he]; exact hw, by rw [hacc, List.length_map, List.take_length]⟩) hc hN (by rw [eN, eS]; exact blkOk_by ok) hfs
end
/-! ### equality of data -/
mutual
def D.py : D → PyData
  | .non => .none
  | .bl b => .bool b
  | .int i => .int i
  | .str s => .str s
  | .tup ds => .tuple (pys ds)
  | .lst ds => .list (pys ds)
  | .scr ns => .list (ns.map PyData.int)
  | .dic _ => .dict []
  | .ty _ => .dict []
def pys : List D → List PyData
  | [] => []
  | d :: ds => d.py :: pys ds
end
mutual
/-- data that == looks through -/
def D.eqk : D → Bool
  | .tup ds => eqks ds
  | .lst ds => eqks ds
  | .dic _ => false
  | .ty _ => false
  | .scr _ => false
  | _ => true
def eqks : List D → Bool
  | [] => true
  | d :: ds => d.eqk && eqks ds
end
section
variable {K : PySem.W.Frag} {B : Bas} {F H : Hp} {E : EL} {T : TL}
mutual
theorem Rep.dp (S : StOk K B F H E T) : ∀ (d : D) (v : V), d.eqk = true → Rep K F d v → Dp K H v d.py
  | .non, _, _, r => by rw [Rep] at r; subst r; exact .non
  | .bl _, _, _, r => by rw [Rep] at r; subst r; exact .bl _
  | .int _, _, _, r => by rw [Rep] at r; subst r; exact .int _
  | .str _, _, _, r => by rw [Rep] at r; subst r; exact .str _
  | .tup ds, _, h, r => by
    rw [Rep] at r
    obtain ⟨a, xs, rfl, h1, h2⟩ := r
    exact .tup (S.sqt h1) (Reps.dp S ds xs (by simpa [D.eqk] using h) h2)
  | .lst ds, _, h, r => by
    rw [Rep] at r
    obtain ⟨a, xs, rfl, h1, h2⟩ := r
    exact .lst (.inl (.inl (S.lst h1))) (Reps.dp S ds xs (by simpa [D.eqk] using h) h2)
  | .scr _, _, h, _ => by simp [D.eqk] at h
  | .dic _, _, h, _ => by simp [D.eqk] at h
  | .ty _, _, h, _ => by simp [D.eqk] at h
theorem Reps.dp (S : StOk K B F H E T) : ∀ (ds : List D) (xs : List V), eqks ds = true → Reps K F ds xs → DpAll K H xs (pys ds)
  | [], _, _, r => by rw [Reps] at r; subst r; exact .nil
  | d :: ds, _, h, r => by
    rw [Reps] at r
    obtain ⟨x, t, rfl, h2, h3⟩ := r
    have h : (d.eqk && eqks ds) = true := by simpa [eqks] using h
    obtain ⟨f1, f2⟩ := Bool.and_eq_true_iff.mp h
    exact .cons (Rep.dp S d x f1 h2) (Reps.dp S ds t f2 h3)
end
theorem Vw.dp {d : D} {v : V} (h : Vw K F H d v) (S : StOk K B F H E T) (hk : d.eqk = true) : Dp K H v d.py := by
  rcases h with h | ⟨ds, p, rfl, rfl, xs, h1, h2, h3⟩ | ⟨kvs, p, rfl, rfl, xs, h1, h2, h3⟩
  · exact Rep.dp S d v hk h
  · exact .lst (.inl (.inl h1)) (Reps.dp S ds xs (by simpa [D.eqk] using hk) h2)
  · simp [D.eqk] at hk
end
section
variable {X : Cx} {es es1 es2 es3 : List R} {e a b c o : Expr} {r ra rb : R} {pos apos p : Pos} {d d' : D}
theorem o2_eqD (va : view es ra = some d) (vb : view es rb = some d') (h1 : d.eqk = true) (h2 : d'.eqk = true) (s1 : SeqAt.shaped d.py = true) (s2 : SeqAt.shaped d'.py = true) : O2 X es (rEqD X.K) ra rb (.imm (.bl (PyData.eqv d.py d'.py))) := o2_of va vb fun B F H E T x y Q S hx hy k =>
  ⟨d.py, d'.py, hx.dp S h1, hy.dp S h2, s1, s2, S.ret1 (Rep.bl_iff.mpr rfl) k⟩
theorem o2_neD (va : view es ra = some d) (vb : view es rb = some d') (h1 : d.eqk = true) (h2 : d'.eqk = true) (s1 : SeqAt.shaped d.py = true) (s2 : SeqAt.shaped d'.py = true) : O2 X es (rNeD X.K) ra rb (.imm (.bl (!PyData.eqv d.py d'.py))) := o2_of va vb fun B F H E T x y Q S hx hy k =>
  ⟨d.py, d'.py, hx.dp S h1, hy.dp S h2, s1, s2, S.ret1 (Rep.bl_iff.mpr rfl) k⟩
theorem tv_neD (hu : X.A.units + 64 < cLine) (ha : EV X es a es1 ra) (hb : EV X es1 b es2 rb) (va : view es2 ra = some d) (vb : view es2 rb = some d') (h1 : d.eqk = true) (h2 : d'.eqk = true) (s1 : SeqAt.shaped d.py = true) (s2 : SeqAt.shaped d'.py = true) : TV X es (.Compare a [.NotEq] [b] pos) es2 (!PyData.eqv d.py d'.py) :=
  tv_cmp (op_neD hu) (o2_neD va vb h1 h2 s1 s2) ha hb (nomark _)
theorem tv_eqD (hu : X.A.units + 64 < cLine) (ha : EV X es a es1 ra) (hb : EV X es1 b es2 rb) (va : view es2 ra = some d) (vb : view es2 rb = some d') (h1 : d.eqk = true) (h2 : d'.eqk = true) (s1 : SeqAt.shaped d.py = true) (s2 : SeqAt.shaped d'.py = true) : TV X es (.Compare a [.Eq] [b] pos) es2 (PyData.eqv d.py d'.py) :=
  tv_cmp (op_eqD hu) (o2_eqD va vb h1 h2 s1 s2) ha hb (nomark _)
/-! lists of numbers -/
theorem pys_ints : ∀ ns : List Int, pys (ns.map D.int) = ns.map PyData.int
  | [] => rfl
  | n :: ns => by rw [List.map_cons, pys, pys_ints ns]; rfl
theorem eqks_ints : ∀ ns : List Int, eqks (ns.map D.int) = true
  | [] => rfl
  | n :: ns => by rw [List.map_cons, eqks, eqks_ints ns]; rfl
theorem lay_ints : ∀ ns : List Int, PyData.canLayAll0 (ns.map PyData.int) = true
  | [] => rfl
  | n :: ns => by rw [List.map_cons, PyData.canLayAll0, lay_ints ns]; rfl
theorem depth_ints : ∀ ns : List Int, PyData.depthAll (ns.map PyData.int) ≤ 1
  | [] => by simp [PyData.depthAll]
  | n :: ns => by
    have := depth_ints ns
    rw [List.map_cons, PyData.depthAll]
    simp [PyData.depth]
    omega
theorem shaped_ints (ns : List Int) : SeqAt.shaped (D.lst (ns.map D.int)).py = true := by
  have h := depth_ints ns
  unfold SeqAt.shaped
  rw [D.py, pys_ints, PyData.canLay0, lay_ints, PyData.depth]
  simp; omega
theorem eqvAll_ints : ∀ ns ms : List Int, PyData.eqvAll (ns.map PyData.int) (ms.map PyData.int) = decide (ns = ms)
  | [], [] => rfl
  | [], m :: ms => rfl
  | n :: ns, [] => rfl
  | n :: ns, m :: ms => by
    rw [List.map_cons, List.map_cons, PyData.eqvAll, eqvAll_ints ns ms]
    show (n == m && decide (ns = ms)) = _
    rw [Bool.eq_iff_iff]; simp
theorem eqv_ints (ns ms : List Int) : PyData.eqv (D.lst (ns.map D.int)).py (D.lst (ms.map D.int)).py = decide (ns = ms) := by
  rw [D.py, D.py, pys_ints, pys_ints, PyData.eqv, eqvAll_ints]
theorem tv_neI {ns ms : List Int} (hu : X.A.units + 64 < cLine) (ha : EV X es a es1 ra) (hb : EV X es1 b es2 rb) (va : view es2 ra = some (.lst (ns.map D.int))) (vb : view es2 rb = some (.lst (ms.map D.int))) : TV X es (.Compare a [.NotEq] [b] pos) es2 (!decide (ns = ms)) :=
  TV.cast (tv_neD hu ha hb va vb (by rw [D.eqk, eqks_ints]) (by rw [D.eqk, eqks_ints]) (shaped_ints _) (shaped_ints _)) (by rw [eqv_ints])
theorem tv_eqI {ns ms : List Int} (hu : X.A.units + 64 < cLine) (ha : EV X es a es1 ra) (hb : EV X es1 b es2 rb) (va : view es2 ra = some (.lst (ns.map D.int))) (vb : view es2 rb = some (.lst (ms.map D.int))) : TV X es (.Compare a [.Eq] [b] pos) es2 (decide (ns = ms)) :=
  TV.cast (tv_eqD hu ha hb va vb (by rw [D.eqk, eqks_ints]) (by rw [D.eqk, eqks_ints]) (shaped_ints _) (shaped_ints _)) (by rw [eqv_ints])
end
end DL

set_option maxRecDepth 100000
set_option maxHeartbeats 4000000
namespace K90
open PySem L2 DL
def top (i : Nat) : Stmt := PySem.Challenge.pw_stagelands_k90_numbers_words_and_records.main.body.getD i (.Pass ⟨0, 0, 0, 0⟩)
abbrev sWriteNumber : Stmt := top 3
abbrev nWriteNumber : List Str := ["number", "rest", "found"]
abbrev pWriteNumber : List Str := ["number"]
theorem scWriteNumber : FnScope nWriteNumber pWriteNumber (defScope sWriteNumber) := ⟨rfl, rfl, rfl, by decide +kernel, rfl, by decide +kernel, by decide +kernel⟩
abbrev sReadNumber : Stmt := top 4
abbrev nReadNumber : List Str := ["octets", "at", "total", "scale", "start"]
abbrev pReadNumber : List Str := ["octets", "at"]
theorem scReadNumber : FnScope nReadNumber pReadNumber (defScope sReadNumber) := ⟨rfl, rfl, rfl, by decide +kernel, rfl, by decide +kernel, by decide +kernel⟩
abbrev sWriteWord : Stmt := top 5
abbrev nWriteWord : List Str := ["word", "letter"]
abbrev pWriteWord : List Str := ["word"]
theorem scWriteWord : FnScope nWriteWord pWriteWord (defScope sWriteWord) := ⟨rfl, rfl, rfl, by decide +kernel, rfl, by decide +kernel, by decide +kernel⟩
abbrev sReadWord : Stmt := top 6
abbrev nReadWord : List Str := ["octets", "at", "rows", "octet"]
abbrev pReadWord : List Str := ["octets", "at"]
theorem scReadWord : FnScope nReadWord pReadWord (defScope sReadWord) := ⟨rfl, rfl, rfl, by decide +kernel, rfl, by decide +kernel, by decide +kernel⟩
abbrev sCheckOf : Stmt := top 7
abbrev nCheckOf : List Str := ["octets", "found", "octet"]
abbrev pCheckOf : List Str := ["octets"]
theorem scCheckOf : FnScope nCheckOf pCheckOf (defScope sCheckOf) := ⟨rfl, rfl, rfl, by decide +kernel, rfl, by decide +kernel, by decide +kernel⟩
abbrev sRecord : Stmt := top 8
abbrev nRecord : List Str := ["deed", "body"]
abbrev pRecord : List Str := ["deed"]
theorem scRecord : FnScope nRecord pRecord (defScope sRecord) := ⟨rfl, rfl, rfl, by decide +kernel, rfl, by decide +kernel, by decide +kernel⟩
abbrev sReadRecord : Stmt := top 9
abbrev nReadRecord : List Str := ["octets", "at", "size", "body", "word", "number"]
abbrev pReadRecord : List Str := ["octets", "at"]
theorem scReadRecord : FnScope nReadRecord pReadRecord (defScope sReadRecord) := ⟨rfl, rfl, rfl, by decide +kernel, rfl, by decide +kernel, by decide +kernel⟩
abbrev sAppended : Stmt := top 10
abbrev nAppended : List Str := ["octets", "at", "deed"]
abbrev pAppended : List Str := ["octets", "at", "deed"]
theorem scAppended : FnScope nAppended pAppended (defScope sAppended) := ⟨rfl, rfl, rfl, by decide +kernel, rfl, by decide +kernel, by decide +kernel⟩
abbrev sLawCell : Stmt := top 12
abbrev nLawCell : List Str := ["script", "k"]
abbrev pLawCell : List Str := ["script", "k"]
theorem scLawCell : FnScope nLawCell pLawCell (defScope sLawCell) := ⟨rfl, rfl, rfl, by decide +kernel, rfl, by decide +kernel, by decide +kernel⟩
abbrev sLawDigits : Stmt := top 13
abbrev nLawDigits : List Str := ["script", "first", "last", "digits", "k", "cell", "turn", "seed"]
abbrev pLawDigits : List Str := ["script", "first", "last"]
theorem scLawDigits : FnScope nLawDigits pLawDigits (defScope sLawDigits) := ⟨rfl, rfl, rfl, by decide +kernel, rfl, by decide +kernel, by decide +kernel⟩
abbrev sLawDraw : Stmt := top 14
abbrev nLawDraw : List Str := ["box", "many"]
abbrev pLawDraw : List Str := ["box", "many"]
theorem scLawDraw : FnScope nLawDraw pLawDraw (defScope sLawDraw) := ⟨rfl, rfl, rfl, by decide +kernel, rfl, by decide +kernel, by decide +kernel⟩
abbrev sLawPick : Stmt := top 15
abbrev nLawPick : List Str := ["box", "row"]
abbrev pLawPick : List Str := ["box", "row"]
theorem scLawPick : FnScope nLawPick pLawPick (defScope sLawPick) := ⟨rfl, rfl, rfl, by decide +kernel, rfl, by decide +kernel, by decide +kernel⟩
abbrev sLawSame : Stmt := top 16
abbrev nLawSame : List Str := ["told", "due", "k"]
abbrev pLawSame : List Str := ["told", "due"]
theorem scLawSame : FnScope nLawSame pLawSame (defScope sLawSame) := ⟨rfl, rfl, rfl, by decide +kernel, rfl, by decide +kernel, by decide +kernel⟩
abbrev sLawNumber : Stmt := top 17
abbrev nLawNumber : List Str := ["number", "more", "octets", "turn"]
abbrev pLawNumber : List Str := ["number"]
theorem scLawNumber : FnScope nLawNumber pLawNumber (defScope sLawNumber) := ⟨rfl, rfl, rfl, by decide +kernel, rfl, by decide +kernel, by decide +kernel⟩
abbrev sLawLetters : Stmt := top 18
abbrev nLawLetters : List Str := ["word", "letter"]
abbrev pLawLetters : List Str := ["word"]
theorem scLawLetters : FnScope nLawLetters pLawLetters (defScope sLawLetters) := ⟨rfl, rfl, rfl, by decide +kernel, rfl, by decide +kernel, by decide +kernel⟩
abbrev sLawKinds : Stmt := top 19
abbrev nLawKinds : List Str := []
abbrev pLawKinds : List Str := []
theorem scLawKinds : FnScope nLawKinds pLawKinds (defScope sLawKinds) := ⟨rfl, rfl, rfl, by decide +kernel, rfl, by decide +kernel, by decide +kernel⟩
abbrev sLawCheck : Stmt := top 20
abbrev nLawCheck : List Str := ["octets", "mark", "octet"]
abbrev pLawCheck : List Str := ["octets"]
theorem scLawCheck : FnScope nLawCheck pLawCheck (defScope sLawCheck) := ⟨rfl, rfl, rfl, by decide +kernel, rfl, by decide +kernel, by decide +kernel⟩
abbrev sLawSealed : Stmt := top 21
abbrev nLawSealed : List Str := ["body"]
abbrev pLawSealed : List Str := ["body"]
theorem scLawSealed : FnScope nLawSealed pLawSealed (defScope sLawSealed) := ⟨rfl, rfl, rfl, by decide +kernel, rfl, by decide +kernel, by decide +kernel⟩
abbrev sLawRecord : Stmt := top 22
abbrev nLawRecord : List Str := ["deed"]
abbrev pLawRecord : List Str := ["deed"]
theorem scLawRecord : FnScope nLawRecord pLawRecord (defScope sLawRecord) := ⟨rfl, rfl, rfl, by decide +kernel, rfl, by decide +kernel, by decide +kernel⟩
abbrev sLawReadNumber : Stmt := top 23
abbrev nLawReadNumber : List Str := ["octets", "at", "worth", "scale", "k"]
abbrev pLawReadNumber : List Str := ["octets", "at"]
theorem scLawReadNumber : FnScope nLawReadNumber pLawReadNumber (defScope sLawReadNumber) := ⟨rfl, rfl, rfl, by decide +kernel, rfl, by decide +kernel, by decide +kernel⟩
abbrev sLawReadWord : Stmt := top 24
abbrev nLawReadWord : List Str := ["octets", "at", "rows", "octet"]
abbrev pLawReadWord : List Str := ["octets", "at"]
theorem scLawReadWord : FnScope nLawReadWord pLawReadWord (defScope sLawReadWord) := ⟨rfl, rfl, rfl, by decide +kernel, rfl, by decide +kernel, by decide +kernel⟩
abbrev sLawReadRecord : Stmt := top 25
abbrev nLawReadRecord : List Str := ["octets", "at", "size", "body", "word", "number"]
abbrev pLawReadRecord : List Str := ["octets", "at"]
theorem scLawReadRecord : FnScope nLawReadRecord pLawReadRecord (defScope sLawReadRecord) := ⟨rfl, rfl, rfl, by decide +kernel, rfl, by decide +kernel, by decide +kernel⟩
abbrev sLawDrawnNumber : Stmt := top 26
abbrev nLawDrawnNumber : List Str := ["box"]
abbrev pLawDrawnNumber : List Str := ["box"]
theorem scLawDrawnNumber : FnScope nLawDrawnNumber pLawDrawnNumber (defScope sLawDrawnNumber) := ⟨rfl, rfl, rfl, by decide +kernel, rfl, by decide +kernel, by decide +kernel⟩
abbrev sLawDrawnWord : Stmt := top 27
abbrev nLawDrawnWord : List Str := ["box", "k"]
abbrev pLawDrawnWord : List Str := ["box"]
theorem scLawDrawnWord : FnScope nLawDrawnWord pLawDrawnWord (defScope sLawDrawnWord) := ⟨rfl, rfl, rfl, by decide +kernel, rfl, by decide +kernel, by decide +kernel⟩
abbrev sLawPiecesRead : Stmt := top 28
abbrev nLawPiecesRead : List Str := ["box", "junk", "tail", "number", "word", "octets", "letters", "bent", "at"]
abbrev pLawPiecesRead : List Str := ["box", "junk", "tail"]
theorem scLawPiecesRead : FnScope nLawPiecesRead pLawPiecesRead (defScope sLawPiecesRead) := ⟨rfl, rfl, rfl, by decide +kernel, rfl, by decide +kernel, by decide +kernel⟩
abbrev sLawSpoilt : Stmt := top 29
abbrev nLawSpoilt : List Str := ["box", "deed", "octets", "place", "word", "number", "kind", "at"]
abbrev pLawSpoilt : List Str := ["box", "deed", "octets"]
theorem scLawSpoilt : FnScope nLawSpoilt pLawSpoilt (defScope sLawSpoilt) := ⟨rfl, rfl, rfl, by decide +kernel, rfl, by decide +kernel, by decide +kernel⟩
abbrev sLaw : Stmt := top 30
abbrev nLaw : List Str := ["script", "box", "turn", "junk", "k", "tail", "deed", "octets", "step", "bent", "cut"]
abbrev pLaw : List Str := ["script"]
theorem scLaw : FnScope nLaw pLaw (defScope sLaw) := ⟨rfl, rfl, rfl, by decide +kernel, rfl, by decide +kernel, by decide +kernel⟩
/-- built-ins that the module leaves as they are -/
structure Blt (mg : Str → Option Value) : Prop where
  all : mg "all" = none
  bool : mg "bool" = none
  int : mg "int" = none
  isinstance : mg "isinstance" = none
  len : mg "len" = none
  list : mg "list" = none
  range : mg "range" = none
  repr : mg "repr" = none
  str : mg "str" = none
  tuple : mg "tuple" = none
/-- the constants of the module -/
structure Glb (K : PySem.W.Frag) (mg : Str → Option Value) : Prop where
  gLETTERS : ∃ t, mg "LETTERS" = some (.str "abcdefghijklmnopqrstuvwxyz" t)
  gKINDS : GTup K mg "KINDS" ["cash", "play", "price", "show", "sell", "back", "close"]
/-- the defs of the module -/
structure Defs (K : PySem.W.Frag) (mg : Str → Option Value) : Prop where
  dWriteNumber : DefAt K mg "write_number" sWriteNumber pWriteNumber
  dReadNumber : DefAt K mg "read_number" sReadNumber pReadNumber
  dWriteWord : DefAt K mg "write_word" sWriteWord pWriteWord
  dReadWord : DefAt K mg "read_word" sReadWord pReadWord
  dCheckOf : DefAt K mg "check_of" sCheckOf pCheckOf
  dRecord : DefAt K mg "record" sRecord pRecord
  dReadRecord : DefAt K mg "read_record" sReadRecord pReadRecord
  dAppended : DefAt K mg "appended" sAppended pAppended
  dLawCell : DefAt K mg "_law_cell" sLawCell pLawCell
  dLawDigits : DefAt K mg "_law_digits" sLawDigits pLawDigits
  dLawDraw : DefAt K mg "_law_draw" sLawDraw pLawDraw
  dLawPick : DefAt K mg "_law_pick" sLawPick pLawPick
  dLawSame : DefAt K mg "_law_same" sLawSame pLawSame
  dLawNumber : DefAt K mg "_law_number" sLawNumber pLawNumber
  dLawLetters : DefAt K mg "_law_letters" sLawLetters pLawLetters
  dLawKinds : DefAt K mg "_law_kinds" sLawKinds pLawKinds
  dLawCheck : DefAt K mg "_law_check" sLawCheck pLawCheck
  dLawSealed : DefAt K mg "_law_sealed" sLawSealed pLawSealed
  dLawRecord : DefAt K mg "_law_record" sLawRecord pLawRecord
  dLawReadNumber : DefAt K mg "_law_read_number" sLawReadNumber pLawReadNumber
  dLawReadWord : DefAt K mg "_law_read_word" sLawReadWord pLawReadWord
  dLawReadRecord : DefAt K mg "_law_read_record" sLawReadRecord pLawReadRecord
  dLawDrawnNumber : DefAt K mg "_law_drawn_number" sLawDrawnNumber pLawDrawnNumber
  dLawDrawnWord : DefAt K mg "_law_drawn_word" sLawDrawnWord pLawDrawnWord
  dLawPiecesRead : DefAt K mg "_law_pieces_read" sLawPiecesRead pLawPiecesRead
  dLawSpoilt : DefAt K mg "_law_spoilt" sLawSpoilt pLawSpoilt
  dLaw : DefAt K mg "law" sLaw pLaw
end K90
namespace K90
open PySem L2 DL
section
variable {P : Program} {w : World} {K : PySem.W.Frag} {mg : Str → Option Value} {base : Heap}
theorem c_cell (Ds : Defs K mg) (T : Blt mg) : Cal P w K mg base 1 "_law_cell" ["script", "k"] (spP K SCell) := by
  refine cal_p Ds.dLawCell scLawCell (fun ds r ⟨_, _, e, _⟩ => by rw [e]; rfl) (fun f cdv A outer s H E hr ds r hS hres => ?_)
  obtain ⟨ns, k, rfl, hk, rfl⟩ := hS
  refine v_if (tv_lt (ev_v 1) (ev_len (ev_v 0) rfl rfl T.len)) (fun hp => ?_) (fun hp => ?_)
  · have hp := of_decide_eq_true hp
    refine v_ret (ev_at (ev_v 0) (ev_v 1) rfl (d := .int (ns.getD k.toNat 0)) (at_scr hk hp)) ?_
    show R.imm _ = R.imm _
    unfold cell; rw [if_pos hp]
  · have hp := of_decide_eq_false hp
    refine sv_nil ?_
    refine v_ret ev_int ?_
    show R.imm _ = R.imm _
    unfold cell; rw [if_neg hp]
theorem c_draw (Ds : Defs K mg) (T : Blt mg) : Cal P w K mg base 1 "_law_draw" ["box", "many"] (spB K SDraw) := by
  refine cal_b Ds.dLawDraw scLawDraw (fun bs ds r bs' ⟨_, _, _, _, e, _⟩ => by rw [e]; rfl) (fun f cdv A outer s H E hr bs ds r bs' hS hres => ?_)
  obtain ⟨ns, c, m, rfl, rfl, hc, hm, rfl, rfl⟩ := hS
  refine v_setIx (ev_add (ev_at (ev_l 0) ev_int rfl at_1) ev_int) (ev_l 0) ev_int (.inr rfl) (m := 1) rfl ?_
  refine v_if (tv_gt (ev_at (ev_l 0) ev_int rfl at_1) (ev_len (ev_at (ev_l 0) ev_int rfl at_0) rfl rfl T.len)) (fun hp => ?_) (fun hp => ?_)
  · have hp := of_decide_eq_true hp
    refine v_ret (ev_mod (ev_intc (ev_add (ev_mul (ev_at (ev_l 0) ev_int rfl at_1) ev_int (.inr (by decide))) ev_int) T.int) (ev_v 1) hm) ⟨?_, rfl⟩
    unfold dr; rw [if_pos (by simpa using hp)]
  · have hp := of_decide_eq_false hp
    have hp' : ¬ c + 1 > ns.length := by simpa using hp
    refine sv_nil ?_
    refine v_ret (ev_mod (ev_intc (ev_at (ev_at (ev_l 0) ev_int rfl at_0) (ev_sub (ev_at (ev_l 0) ev_int rfl at_1) ev_int) rfl (at_ints (by omega) (by omega))) T.int) (ev_v 1) hm) ⟨?_, rfl⟩
    unfold dr; rw [if_neg hp']
    have : c + 1 - 1 = c := by omega
    rw [this]
theorem c_pick (Ds : Defs K mg) (T : Blt mg) : Cal P w K mg base 2 "_law_pick" ["box", "row"] (spB K SPick) := by
  refine cal_b Ds.dLawPick scLawPick (fun bs ds r bs' ⟨_, _, _, _, _, _, e, _⟩ => by rw [e]; rfl) (fun f cdv A outer s H E hr bs ds r bs' hS hres => ?_)
  obtain ⟨ns, c, d, n, x, rfl, rfl, hc, hn, hn0, hx, rfl, rfl⟩ := hS
  exact v_ret (ev_at (ev_v 1) (ev_mod (ev_intc (ev_cb (c_draw Ds T) hr (av_1 (ev_l 0) (av_1 ev_int av_nil)) (.inr rfl) ⟨ns, c, 1000, rfl, rfl, hc, by decide, rfl, rfl⟩) T.int) (ev_len (ev_v 1) rfl hn T.len) (by omega)) rfl hx) ⟨rfl, rfl⟩
theorem c_dig (Ds : Defs K mg) (T : Blt mg) : Cal P w K mg base 2 "_law_digits" ["script", "first", "last"] (spP K SDig) := by
  refine cal_p Ds.dLawDigits scLawDigits (fun ds r ⟨_, _, _, e, _⟩ => by rw [e]; rfl) (fun f cdv A outer s H E hr ds r hS hres => ?_)
  obtain ⟨ns, a, b, rfl, ha, hab, hb, rfl⟩ := hS
  refine v_set 3 scLawDigits.nd (ev_lst (ds := []) av_nil rfl (by decide)) ?_
  refine v_forP (fun i => [.imm (.scr ns), .imm (.int a), .imm (.int b), .own ((digN ns a i).map D.int), .any, .any, .any, .any]) (iv_range2 (ev_v 1) (ev_v 2) (by omega) rfl T.range rfl rfl) (Wk.refl _) ?_ ?_
  · intro i d hd
    obtain ⟨hi, rfl⟩ := rangeD_get hd
    have hlen := digN_len ns a i
    refine ⟨_, _, g_n 4 scLawDigits.nd, ?_⟩
    -- cell = _law_cell(script, k)
    refine v_set 5 scLawDigits.nd (ev_c (c_cell Ds T) hr (av_1 (ev_v 0) (av_1 (ev_v 4) av_nil)) ⟨ns, a + (i : Nat), rfl, by omega, rfl⟩) ?_
    -- if cell < 0: cell = 1 - 2 * cell
    refine v_ifJ [.imm (.scr ns), .imm (.int a), .imm (.int b), .own ((digN ns a i).map D.int), .imm (.int (a + (i : Nat))), .imm (.int (if cell ns (a + (i : Nat)) < 0 then 1 - 2 * cell ns (a + (i : Nat)) else cell ns (a + (i : Nat)))), .any, .any]
      (tv_lt (ev_v 5) ev_int) (fun hq => ?_) (fun hq => ?_) ?_
    · have hq : cell ns (a + (i : Nat)) < 0 := of_decide_eq_true hq
      refine v_set 5 scLawDigits.nd (ev_sub ev_int (ev_mul ev_int (ev_v 5) (.inl (by decide)))) (sv_nil ?_)
      rw [if_pos hq]
      exact Wk.refl _
    · have hq : ¬ cell ns (a + (i : Nat)) < 0 := of_decide_eq_false hq
      refine sv_nil ?_
      rw [if_neg hq]
      exact Wk.refl _
    · generalize hcc : (if cell ns (a + (i : Nat)) < 0 then 1 - 2 * cell ns (a + (i : Nat)) else cell ns (a + (i : Nat))) = cc
      refine v_if (tv_ge (ev_v 5) (ev_pow ev_int ev_int (by decide))) (fun hp => ?_) (fun hp => ?_)
      · have hp : cc ≥ 10 ^ 18 := of_decide_eq_true hp
        refine v_forP (fun t => [.imm (.scr ns), .imm (.int a), .imm (.int b), .own ((hugeN t (cc, digN ns a i)).2.map D.int), .any, .imm (.int (hugeN t (cc, digN ns a i)).1), .any, .any]) (iv_range1 ev_int (by decide) (by decide) rfl T.range rfl) (Wk.same <| Wk.same <| Wk.same <| Wk.same <| Wk.drop <| Wk.same <| Wk.drop <| Wk.drop Wk.nil) ?_ ?_
        · intro t d hd
          obtain ⟨ht, rfl⟩ := rangeD_get hd
          have hl2 := hugeN_len t (cc, digN ns a i)
          refine ⟨_, _, g_n 6 scLawDigits.nd, ?_⟩
          generalize hs : hugeN t (cc, digN ns a i) = st
          rw [hs] at hl2
          dsimp only at hl2
          refine v_if (tv_gt (ev_v 5) ev_int) (fun hq => ?_) (fun hq => ?_)
          · have hq : st.1 > 0 := of_decide_eq_true hq
            refine v_expr (ev_append (ev_l 3) (ev_mod (ev_intc (ev_v 5) T.int) ev_int (by decide)) rfl ⟨_, .inl rfl⟩ rfl (.inl rfl) (by rw [List.length_map]; simp at ht; omega)) ?_
            refine v_set 5 scLawDigits.nd (ev_fdiv (ev_v 5) ev_int (by decide)) ?_
            refine sv_nil (sv_nil ?_)
            have e : hugeN (t + 1) (cc, digN ns a i) = (st.1.fdiv 1000, st.2 ++ [st.1.fmod 1000]) := by
              unfold hugeN hugeI; rw [hs, if_pos hq]
            show Wk _ [_, _, _, _, _, _, _, _]
            rw [e, List.map_append]
            exact Wk.same <| Wk.same <| Wk.same <| Wk.same <| Wk.drop <| Wk.same <| Wk.drop <| Wk.drop Wk.nil
          · have hq : ¬ st.1 > 0 := of_decide_eq_false hq
            refine sv_nil (sv_nil ?_)
            have e : hugeN (t + 1) (cc, digN ns a i) = st := by
              unfold hugeN hugeI; rw [hs, if_neg hq]
            show Wk _ [_, _, _, _, _, _, _, _]
            rw [e]
            exact Wk.same <| Wk.same <| Wk.same <| Wk.same <| Wk.drop <| Wk.same <| Wk.drop <| Wk.drop Wk.nil
        · refine sv_nil (sv_nil ?_)
          have e : digN ns a (i + 1) = (hugeN 60 (cc, digN ns a i)).2 := by
            show digOne ns (a + (i : Nat)) (digN ns a i) = _
            unfold digOne
            dsimp only
            rw [hcc]
            exact if_pos hp
          show Wk _ [_, _, _, _, _, _, _, _]
          rw [e]
          exact Wk.same <| Wk.same <| Wk.same <| Wk.same <| Wk.drop <| Wk.drop <| Wk.drop <| Wk.drop Wk.nil
      · have hp : ¬ cc ≥ 10 ^ 18 := of_decide_eq_false hp
        refine v_set 7 scLawDigits.nd (ev_mod (ev_intc (ev_add (ev_add (ev_mul (ev_v 5) ev_int (.inr (by decide))) (ev_mul (ev_v 4) ev_int (.inr (by decide)))) ev_int) T.int) ev_int (by decide)) ?_
        refine v_forP (fun t => [.imm (.scr ns), .imm (.int a), .imm (.int b), .own ((seedN cc (a + (i : Nat)) t (digN ns a i)).2.map D.int), .any, .any, .any, .imm (.int (seedN cc (a + (i : Nat)) t (digN ns a i)).1)]) (iv_range1 ev_int (by decide) (by decide) rfl T.range rfl) (Wk.same <| Wk.same <| Wk.same <| Wk.same <| Wk.drop <| Wk.drop <| Wk.drop <| Wk.same Wk.nil) ?_ ?_
        · intro t d hd
          obtain ⟨ht, rfl⟩ := rangeD_get hd
          have hl2 := seedN_len cc (a + (i : Nat)) t (digN ns a i)
          refine ⟨_, _, g_n 6 scLawDigits.nd, ?_⟩
          have e : seedN cc (a + (i : Nat)) (t + 1) (digN ns a i) = (((seedN cc (a + (i : Nat)) t (digN ns a i)).1 * 16807 + 7 * (0 + (t : Nat) : Int) + 1).fmod 2147483647, (seedN cc (a + (i : Nat)) t (digN ns a i)).2 ++ [((((seedN cc (a + (i : Nat)) t (digN ns a i)).1 * 16807 + 7 * (0 + (t : Nat) : Int) + 1).fmod 2147483647).fdiv 997).fmod 1000]) := by
            rw [Int.zero_add]; rfl
          refine v_set 7 scLawDigits.nd (ev_mod (ev_intc (ev_add (ev_add (ev_mul (ev_v 7) ev_int (.inr (by decide))) (ev_mul ev_int (ev_v 6) (.inl (by decide)))) ev_int) T.int) ev_int (by decide)) ?_
          refine v_expr (ev_append (ev_l 3) (ev_mod (ev_intc (ev_fdiv (ev_v 7) ev_int (by decide)) T.int) ev_int (by decide)) rfl ⟨_, .inl rfl⟩ rfl (.inl rfl) (by rw [List.length_map]; simp at ht; omega)) ?_
          refine sv_nil ?_
          show Wk _ [_, _, _, _, _, _, _, _]
          rw [e, List.map_append]
          exact Wk.same <| Wk.same <| Wk.same <| Wk.same <| Wk.drop <| Wk.drop <| Wk.drop <| Wk.same Wk.nil
        · refine sv_nil (sv_nil ?_)
          have e : digN ns a (i + 1) = (seedN cc (a + (i : Nat)) 12 (digN ns a i)).2 := by
            show digOne ns (a + (i : Nat)) (digN ns a i) = _
            unfold digOne
            dsimp only
            rw [hcc]
            exact if_neg hp
          show Wk _ [_, _, _, _, _, _, _, _]
          rw [e]
          exact Wk.same <| Wk.same <| Wk.same <| Wk.same <| Wk.drop <| Wk.drop <| Wk.drop <| Wk.drop Wk.nil
  · rw [rangeD_len]
    exact v_retL (ev_l 3) rfl
theorem c_same (Ds : Defs K mg) (T : Blt mg) : ∀ n : Nat, Cal P w K mg base (n + 1) "_law_same" ["told", "due"] (spP K (SSame n)) := by
  intro n
  induction n using Nat.strongRecOn with
  | _ n ih =>
    refine cal_p Ds.dLawSame scLawSame (fun ds r ⟨_, e, _⟩ => by rw [e]; rfl) (fun f cdv A outer s H E hr ds r hS hres => ?_)
    obtain ⟨d, rfl, hd, hdep, rfl⟩ := hS
    cases d with
    | non => exact v_if (tv_isN (ev_v 1) ev_non rfl) (fun h => v_ret (ev_isN (ev_v 0) ev_non rfl) rfl) (fun h => by cases h)
    | bl q =>
      refine v_if (tv_isN (ev_v 1) ev_non rfl) (fun h => by cases h) (fun h => sv_nil ?_)
      cases q with
      | true => exact v_if (tv_isB (ev_v 1) ev_bl rfl) (fun h => v_ret (ev_isB (ev_v 0) ev_bl rfl) rfl) (fun h => by cases h)
      | false =>
        refine v_if (tv_isB (ev_v 1) ev_bl rfl) (fun h => by cases h) (fun h => sv_nil ?_)
        exact v_if (tv_isB (ev_v 1) ev_bl rfl) (fun h => v_ret (ev_isB (ev_v 0) ev_bl rfl) rfl) (fun h => by cases h)
    | str x =>
      refine v_if (tv_isN (ev_v 1) ev_non rfl) (fun h => by cases h) (fun h => sv_nil ?_)
      refine v_if (tv_isB (ev_v 1) ev_bl rfl) (fun h => by cases h) (fun h => sv_nil ?_)
      refine v_if (tv_isB (ev_v 1) ev_bl rfl) (fun h => by cases h) (fun h => sv_nil ?_)
      refine v_if (tv_v (ev_isn "str" true (ev_v 1) T.str T.isinstance)) (fun _ => ?_) (fun h => by cases h)
      have hz : (reprText x).length ≤ 1000000 := of_decide_eq_true (by rw [D.ok] at hd; exact hd)
      refine v_ret (EV.same (ev_and (ev_isn "str" true (ev_v 0) T.str T.isinstance) (fun _ => ev_one (ev_eqS (ev_reprS (ev_v 0) hz T.repr) (ev_reprS (ev_v 1) hz T.repr))))) ?_
      show R.imm _ = R.imm _
      rw [decide_eq_true rfl]; rfl
    | int x =>
      refine v_if (tv_isN (ev_v 1) ev_non rfl) (fun h => by cases h) (fun h => sv_nil ?_)
      refine v_if (tv_isB (ev_v 1) ev_bl rfl) (fun h => by cases h) (fun h => sv_nil ?_)
      refine v_if (tv_isB (ev_v 1) ev_bl rfl) (fun h => by cases h) (fun h => sv_nil ?_)
      refine v_if (tv_v (ev_isn "str" false (ev_v 1) T.str T.isinstance)) (fun h => by cases h) (fun _ => sv_nil ?_)
      refine v_if (tv_v (ev_isn "int" true (ev_v 1) T.int T.isinstance)) (fun _ => ?_) (fun h => by cases h)
      have hz : x.natAbs.log2 < 1920 := of_decide_eq_true (by rw [D.ok] at hd; exact hd)
      refine v_ret (EV.same (ev_and (ev_isn "int" true (ev_v 0) T.int T.isinstance) (fun _ => EV.same (ev_and (ev_not (ev_isn "bool" false (ev_v 0) T.bool T.isinstance)) (fun _ => ev_one (ev_eqS (ev_reprI (ev_v 0) hz T.repr) (ev_reprI (ev_v 1) hz T.repr))))))) ?_
      show R.imm _ = R.imm _
      rw [decide_eq_true rfl]; rfl
    | tup ds =>
      refine v_if (tv_isN (ev_v 1) ev_non rfl) (fun h => by cases h) (fun h => sv_nil ?_)
      refine v_if (tv_isB (ev_v 1) ev_bl rfl) (fun h => by cases h) (fun h => sv_nil ?_)
      refine v_if (tv_isB (ev_v 1) ev_bl rfl) (fun h => by cases h) (fun h => sv_nil ?_)
      rw [D.ok, Bool.and_eq_true] at hd
      obtain ⟨hz, hg⟩ := hd
      have hz := of_decide_eq_true hz
      rw [D.dep] at hdep
      obtain ⟨m, rfl⟩ : ∃ m, n = m + 1 := ⟨n - 1, by omega⟩
      refine v_if (tv_v (ev_isn "str" false (ev_v 1) T.str T.isinstance)) (fun h => by cases h) (fun _ => sv_nil ?_)
      refine v_if (tv_v (ev_isn "int" false (ev_v 1) T.int T.isinstance)) (fun h => by cases h) (fun _ => sv_nil ?_)
      refine v_if (WV.tv (WV.same (wv_or (p := false) (WV.tv (WV.same (wv_and (p := true) (q := false) (tv_v (ev_isn "tuple" true (ev_v 1) T.tuple T.isinstance)) (fun _ => wv_and1 (tv_not (tv_v (ev_isn "tuple" true (ev_v 0) T.tuple T.isinstance))))))) (fun _ => wv_or1 (WV.tv (WV.same (wv_and (p := false) (q := true) (tv_v (ev_isn "list" false (ev_v 1) T.list T.isinstance)) (fun h => by cases h)))))))) (fun h => by cases h) (fun _ => sv_nil ?_)
      refine v_if (tv_ne (ev_len (ev_v 0) rfl rfl T.len) (ev_len (ev_v 1) rfl rfl T.len)) (fun h => by simp at h) (fun _ => sv_nil ?_)
      refine v_forP (fun _ => [.imm (.tup ds), .imm (.tup ds), .any]) (iv_range1 (ev_len (ev_v 1) rfl rfl T.len) (by omega) (by omega) rfl T.range rfl) (Wk.refl _) ?_ ?_
      · intro i d hd
        obtain ⟨hi, rfl⟩ := rangeD_get hd
        have hi : i < ds.length := by simpa using hi
        have hz : (0 : Int) + (i : Nat) = (i : Nat) := by omega
        rw [hz]
        have hit := List.getElem?_eq_getElem hi
        refine ⟨_, _, g_n 2 scLawSame.nd, ?_⟩
        refine v_if (tv_not (tv_v (ev_c (ih m (Nat.lt_succ_self m)) hr (av_1 (ev_at (ev_v 0) (ev_v 2) rfl (at_tup hit)) (av_1 (ev_at (ev_v 1) (ev_v 2) rfl (at_tup hit)) av_nil)) ⟨_, rfl, oks_mem hg (List.getElem_mem hi), by have := deps_mem (List.getElem_mem hi); omega, rfl⟩))) (fun h => by cases h) (fun _ => sv_nil (sv_nil ?_))
        exact Wk.same <| Wk.same <| Wk.drop Wk.nil
      · exact v_ret ev_bl rfl
    | lst ds =>
      refine v_if (tv_isN (ev_v 1) ev_non rfl) (fun h => by cases h) (fun h => sv_nil ?_)
      refine v_if (tv_isB (ev_v 1) ev_bl rfl) (fun h => by cases h) (fun h => sv_nil ?_)
      refine v_if (tv_isB (ev_v 1) ev_bl rfl) (fun h => by cases h) (fun h => sv_nil ?_)
      rw [D.ok, Bool.and_eq_true] at hd
      obtain ⟨hz, hg⟩ := hd
      have hz := of_decide_eq_true hz
      rw [D.dep] at hdep
      obtain ⟨m, rfl⟩ : ∃ m, n = m + 1 := ⟨n - 1, by omega⟩
      refine v_if (tv_v (ev_isn "str" false (ev_v 1) T.str T.isinstance)) (fun h => by cases h) (fun _ => sv_nil ?_)
      refine v_if (tv_v (ev_isn "int" false (ev_v 1) T.int T.isinstance)) (fun h => by cases h) (fun _ => sv_nil ?_)
      refine v_if (WV.tv (WV.same (wv_or (p := false) (q := false) (WV.tv (WV.same (wv_and (p := false) (q := true) (tv_v (ev_isn "tuple" false (ev_v 1) T.tuple T.isinstance)) (fun h => by cases h)))) (fun _ => wv_or1 (WV.tv (WV.same (wv_and (p := true) (q := false) (tv_v (ev_isn "list" true (ev_v 1) T.list T.isinstance)) (fun _ => wv_and1 (tv_not (tv_v (ev_isn "list" true (ev_v 0) T.list T.isinstance))))))))))) (fun h => by cases h) (fun _ => sv_nil ?_)
      refine v_if (tv_ne (ev_len (ev_v 0) rfl rfl T.len) (ev_len (ev_v 1) rfl rfl T.len)) (fun h => by simp at h) (fun _ => sv_nil ?_)
      refine v_forP (fun _ => [.imm (.lst ds), .imm (.lst ds), .any]) (iv_range1 (ev_len (ev_v 1) rfl rfl T.len) (by omega) (by omega) rfl T.range rfl) (Wk.refl _) ?_ ?_
      · intro i d hd
        obtain ⟨hi, rfl⟩ := rangeD_get hd
        have hi : i < ds.length := by simpa using hi
        have hz : (0 : Int) + (i : Nat) = (i : Nat) := by omega
        rw [hz]
        have hit := List.getElem?_eq_getElem hi
        refine ⟨_, _, g_n 2 scLawSame.nd, ?_⟩
        refine v_if (tv_not (tv_v (ev_c (ih m (Nat.lt_succ_self m)) hr (av_1 (ev_at (ev_v 0) (ev_v 2) rfl (at_lst hit)) (av_1 (ev_at (ev_v 1) (ev_v 2) rfl (at_lst hit)) av_nil)) ⟨_, rfl, oks_mem hg (List.getElem_mem hi), by have := deps_mem (List.getElem_mem hi); omega, rfl⟩))) (fun h => by cases h) (fun _ => sv_nil (sv_nil ?_))
        exact Wk.same <| Wk.same <| Wk.drop Wk.nil
      · exact v_ret ev_bl rfl
    | scr _ => rw [D.ok] at hd; cases hd
    | dic _ => rw [D.ok] at hd; cases hd
    | ty _ => rw [D.ok] at hd; cases hd
end
end K90

set_option maxRecDepth 100000
/-! k90: the mathematics. -/
namespace K90
/-! numbers as octets -/
def zz (n : Int) : Int := if n < 0 then -2 * n - 1 else 2 * n
def unzz (t : Int) : Int := if t.fmod 2 = 1 then (-(t + 1)).fdiv 2 else t.fdiv 2
def wnF : Nat → Int → List Int
  | 0, m => [m]
  | k + 1, m => if m > 127 then (m.fmod 128 + 128) :: wnF k (m.fdiv 128) else [m]
def wnum (n : Int) : List Int := wnF 6 (zz n)
def rdA : List Int → Int → Int → Nat → Option (Int × Nat)
  | [], _, _, _ => none
  | o :: r, t, s, k => if o > 127 then rdA r (t + (o - 128) * s) (s * 128) (k + 1) else if o = 0 ∧ k > 0 then none else some (t + o * s, k + 1)
def rnum (os : List Int) (at_ : Nat) : Option (Int × Int) := (rdA (os.drop at_) 0 1 0).map fun x => (unzz x.1, (at_ : Int) + x.2)
/-- all are octets -/
def Oct (os : List Int) : Prop := ∀ o ∈ os, 0 ≤ o ∧ o ≤ 255
theorem Oct.app {a b : List Int} (h : Oct a) (h' : Oct b) : Oct (a ++ b) := fun o ho => by
  rcases List.mem_append.mp ho with ho | ho
  · exact h o ho
  · exact h' o ho
theorem Oct.left {a b : List Int} (h : Oct (a ++ b)) : Oct a := fun o ho => h o (List.mem_append_left _ ho)
theorem Oct.right {a b : List Int} (h : Oct (a ++ b)) : Oct b := fun o ho => h o (List.mem_append_right _ ho)
theorem Oct.cons {a : Int} {b : List Int} (h : 0 ≤ a ∧ a ≤ 255) (h' : Oct b) : Oct (a :: b) := fun o ho => by
  rcases List.mem_cons.mp ho with rfl | ho
  · exact h
  · exact h' o ho
theorem Oct.nil : Oct [] := fun o ho => by simp at ho
theorem Oct.drop {a : List Int} (h : Oct a) (n : Nat) : Oct (a.drop n) := fun o ho => h o (List.mem_of_mem_drop ho)
theorem Oct.take {a : List Int} (h : Oct a) (n : Nat) : Oct (a.take n) := fun o ho => h o (List.mem_of_mem_take ho)
theorem zz_nn (n : Int) : 0 ≤ zz n := by unfold zz; split <;> omega
theorem unzz_zz (n : Int) : unzz (zz n) = n := by
  unfold unzz zz
  split
  · rw [Int.fmod_eq_emod_of_nonneg _ (by omega), if_pos (by omega), Int.fdiv_eq_ediv_of_nonneg _ (by omega)]
    omega
  · rw [Int.fmod_eq_emod_of_nonneg _ (by omega), if_neg (by omega), Int.fdiv_eq_ediv_of_nonneg _ (by omega)]
    omega
theorem wnF_len : ∀ (k : Nat) (m : Int), (wnF k m).length ≤ k + 1 ∧ 1 ≤ (wnF k m).length
  | 0, m => by simp [wnF]
  | k + 1, m => by
    have := wnF_len k (m.fdiv 128)
    unfold wnF
    split <;> simp <;> omega
theorem wnF_oct : ∀ (k : Nat) (m : Int), 0 ≤ m → m < 128 ^ (k + 1) → Oct (wnF k m)
  | 0, m, h0, h1 => Oct.cons (by omega) Oct.nil
  | k + 1, m, h0, h1 => by
    unfold wnF
    split
    · rw [Int.fdiv_eq_ediv_of_nonneg _ (by omega), Int.fmod_eq_emod_of_nonneg _ (by omega)]
      refine Oct.cons (by omega) (wnF_oct k _ (by omega) ?_)
      have : (128 : Int) ^ (k + 2) = 128 ^ (k + 1) * 128 := Int.pow_succ _ _
      rw [this] at h1
      exact Int.ediv_lt_of_lt_mul (by omega) h1
    · exact Oct.cons (by omega) Oct.nil
/-- what is written is read, whatever stands behind -/
theorem rdA_wnF (tail : List Int) : ∀ (k : Nat) (m t s : Int) (j : Nat), 0 ≤ m → m < 128 ^ (k + 1) → (m = 0 → j = 0) → rdA (wnF k m ++ tail) t s j = some (t + m * s, j + (wnF k m).length)
  | 0, m, t, s, j, h0, h1, hz => by
    have h1 : m < 128 := by simpa using h1
    show rdA (m :: tail) t s j = _
    unfold rdA
    rw [if_neg (by omega), if_neg (fun z => by have := hz z.1; omega)]
    simp [wnF]
  | k + 1, m, t, s, j, h0, h1, hz => by
    unfold wnF
    split
    · rename_i hm
      rw [Int.fdiv_eq_ediv_of_nonneg _ (by omega), Int.fmod_eq_emod_of_nonneg _ (by omega), List.cons_append]
      unfold rdA
      rw [if_pos (by omega)]
      have h2 : m / 128 < 128 ^ (k + 1) := by
        have : (128 : Int) ^ (k + 2) = 128 ^ (k + 1) * 128 := Int.pow_succ _ _
        rw [this] at h1
        exact Int.ediv_lt_of_lt_mul (by omega) h1
      rw [rdA_wnF tail k (m / 128) _ _ (j + 1) (by omega) h2 (fun z => by omega)]
      have e : m % 128 + 128 - 128 = m % 128 := by omega
      have e2 : t + m % 128 * s + m / 128 * (s * 128) = t + m * s := by
        have : m * s = (m % 128 + 128 * (m / 128)) * s := by rw [Int.emod_add_mul_ediv]
        rw [this, Int.add_mul, Int.mul_comm s 128, ← Int.mul_assoc, Int.mul_comm (m / 128) 128]; omega
      rw [e, e2]
      simp; omega
    · unfold rdA
      show rdA (m :: tail) t s j = _
      unfold rdA
      rw [if_neg (by omega), if_neg (fun z => by have := hz z.1; omega)]
      simp
/-- without its last octet nothing is read -/
theorem rdA_cut : ∀ (k : Nat) (m t s : Int) (j : Nat), 0 ≤ m → rdA ((wnF k m).dropLast) t s j = none
  | 0, m, t, s, j, h0 => rfl
  | k + 1, m, t, s, j, h0 => by
    unfold wnF
    split
    · have hne : wnF k (m.fdiv 128) ≠ [] := by
        intro z
        have := (wnF_len k (m.fdiv 128)).2
        rw [z] at this; simp at this
      rw [List.dropLast_cons_of_ne_nil hne]
      unfold rdA
      rw [Int.fmod_eq_emod_of_nonneg _ (by omega), if_pos (by omega)]
      exact rdA_cut k _ _ _ _ (by rw [Int.fdiv_eq_ediv_of_nonneg _ (by omega)]; omega)
    · rfl
/-- one octet too long -/
theorem rdA_long (tail : List Int) : ∀ (k : Nat) (m t s : Int) (j : Nat), 0 ≤ m → rdA ((wnF k m).dropLast ++ [(wnF k m).getLast?.getD 0 + 128, 0] ++ tail) t s j = none
  | 0, m, t, s, j, h0 => by
    show rdA ((m + 128) :: 0 :: tail) t s j = none
    unfold rdA
    rw [if_pos (by omega)]
    unfold rdA
    rw [if_neg (by omega), if_pos ⟨rfl, by omega⟩]
  | k + 1, m, t, s, j, h0 => by
    unfold wnF
    split
    · have hne : wnF k (m.fdiv 128) ≠ [] := by
        intro z
        have := (wnF_len k (m.fdiv 128)).2
        rw [z] at this; simp at this
      rw [List.dropLast_cons_of_ne_nil hne, List.getLast?_cons_of_ne_nil hne]
      show rdA ((m.fmod 128 + 128) :: ((wnF k (m.fdiv 128)).dropLast ++ [(wnF k (m.fdiv 128)).getLast?.getD 0 + 128, 0] ++ tail)) t s j = none
      unfold rdA
      rw [Int.fmod_eq_emod_of_nonneg _ (by omega), if_pos (by omega)]
      exact rdA_long tail k _ _ _ _ (by rw [Int.fdiv_eq_ediv_of_nonneg _ (by omega)]; omega)
    · show rdA ((m + 128) :: 0 :: tail) t s j = none
      unfold rdA
      rw [if_pos (by omega)]
      unfold rdA
      rw [if_neg (by omega), if_pos ⟨rfl, by omega⟩]
theorem rdA_size : ∀ (os : List Int) (t s : Int) (j : Nat) {v : Int} {n : Nat}, Oct os → 0 ≤ t → t < s → rdA os t s j = some (v, n) → 0 ≤ v ∧ v < s * 128 ^ os.length ∧ n ≤ j + os.length
  | [], t, s, j, v, n, ho, h0, h1, e => by cases e
  | o :: r, t, s, j, v, n, ho, h0, h1, e => by
    obtain ⟨p1, p2⟩ := ho o List.mem_cons_self
    have hr : Oct r := fun x hx => ho x (List.mem_cons_of_mem _ hx)
    unfold rdA at e
    split at e
    · rename_i hgt
      have a1 : 0 ≤ (o - 128) * s := Int.mul_nonneg (by omega) (by omega)
      have a2 : (o - 128) * s ≤ 127 * s := Int.mul_le_mul_of_nonneg_right (by omega) (by omega)
      obtain ⟨b1, b2, b3⟩ := rdA_size r _ _ _ hr (by omega) (by omega) e
      refine ⟨b1, ?_, by simp; omega⟩
      rw [List.length_cons, Int.pow_succ, Int.mul_comm (128 ^ r.length) 128, ← Int.mul_assoc]
      exact b2
    · split at e
      · cases e
      · cases e
        have a1 : 0 ≤ o * s := Int.mul_nonneg (by omega) (by omega)
        have a2 : o * s ≤ 127 * s := Int.mul_le_mul_of_nonneg_right (by omega) (by omega)
        refine ⟨by omega, ?_, by simp⟩
        have hpp : (0 : Int) < 128 ^ r.length := Int.pow_pos (by omega)
        rw [List.length_cons, Int.pow_succ]
        have : s * 128 ≤ s * (128 ^ r.length * 128) := Int.mul_le_mul_of_nonneg_left (by omega) (by omega)
        omega

/-! what stands at places -/
theorem drop_cons {os : List Int} {k : Nat} (h : k < os.length) : os.drop k = os.getD k 0 :: os.drop (k + 1) := by
  rw [List.drop_eq_getElem_cons h]; simp [h]
theorem Oct.getD {os : List Int} (h : Oct os) {k : Nat} (hk : k < os.length) : 0 ≤ os.getD k 0 ∧ os.getD k 0 ≤ 255 := by
  have : os.getD k 0 ∈ os := by
    rw [List.getD_eq_getElem?_getD, List.getElem?_eq_getElem hk]
    exact List.getElem_mem hk
  exact h _ this
/-! words -/
/-- the word's signs (codes) and the place behind it -/
def rword (os : List Int) (at_ : Nat) : Option (List Int × Int) :=
  if at_ ≥ os.length ∨ os.getD at_ 0 > 9 ∨ (at_ : Int) + os.getD at_ 0 ≥ os.length then none
  else
    let rows := (os.drop (at_ + 1)).take (os.getD at_ 0).toNat
    if rows.all (fun o => decide (1 ≤ o) && decide (o ≤ 26)) then some (rows, (at_ : Int) + 1 + os.getD at_ 0) else none
/-- a word by its letters' numbers, 1 for a -/
def wordOf (ls : List Int) : PySem.Str := ⟨(ls.map fun o => (o + 96).toNat).toArray⟩
def Let (ls : List Int) : Prop := ls.length ≤ 9 ∧ ∀ o ∈ ls, 1 ≤ o ∧ o ≤ 26
def lword (ls : List Int) : List Int := (ls.length : Int) :: ls
theorem rword_lword {junk ls tail : List Int} (h : Let ls) : rword (junk ++ lword ls ++ tail) junk.length = some (ls, (junk.length : Int) + 1 + ls.length) := by
  obtain ⟨h1, h2⟩ := h
  have e : (junk ++ lword ls ++ tail).getD junk.length 0 = (ls.length : Int) := by simp [lword]
  have el : (junk ++ lword ls ++ tail).length = junk.length + (ls.length + 1) + tail.length := by simp [lword]; omega
  unfold rword
  rw [e, el, if_neg (by omega)]
  have er : ((junk ++ lword ls ++ tail).drop (junk.length + 1)).take (ls.length : Int).toNat = ls := by
    rw [List.append_assoc, ← List.drop_drop, List.drop_left]
    simp [lword]
  simp only [er]
  rw [if_pos]
  rw [List.all_eq_true]
  intro o ho
  obtain ⟨a, b⟩ := h2 o ho
  simp [a, b]
/-! checks -/
def chk (os : List Int) : Int := os.foldl (fun m o => (m * 43 + o).fmod 251) 19
theorem chk_le (os : List Int) : 0 ≤ chk os ∧ chk os ≤ 250 := by
  unfold chk
  rcases List.eq_nil_or_concat os with rfl | ⟨r, o, rfl⟩
  · simp
  · rw [List.concat_eq_append, List.foldl_append]
    simp only [List.foldl_cons, List.foldl_nil]
    rw [Int.fmod_eq_emod_of_nonneg _ (by omega)]
    omega
/-! records -/
def sealed (body : List Int) : List Int := (body.length : Int) :: (body ++ [chk body])
/-- a deed: the place of its kind, its letters, its number -/
structure Dd where
  k : Nat
  w : List Int
  n : Int
structure Dd.Ok (d : Dd) : Prop where
  k : d.k < 7
  w : Let d.w
  n : -99999 ≤ d.n ∧ d.n ≤ 99999
def body (d : Dd) : List Int := (d.k : Int) :: (lword d.w ++ wnum d.n)
def rec (d : Dd) : List Int := sealed (body d)
def rrTail (bd : List Int) (size at_ : Nat) : Option (Dd × Int) :=
  (rword bd 1).bind fun x => (rnum bd x.2.toNat).bind fun y => if y.2 ≠ size then none else some (⟨(bd.getD 0 0).toNat, x.1, y.1⟩, (at_ : Int) + size + 2)
def rrec (os : List Int) (at_ : Nat) : Option (Dd × Int) :=
  if at_ ≥ os.length ∨ (at_ : Int) + os.getD at_ 0 + 2 > os.length then none
  else
    let size := (os.getD at_ 0).toNat
    let bd := (os.drop (at_ + 1)).take size
    if size = 0 ∨ os.getD (at_ + 1 + size) 0 ≠ chk bd ∨ bd.getD 0 0 ≥ 7 then none
    else rrTail bd size at_
end K90

set_option maxRecDepth 100000
set_option maxHeartbeats 4000000
namespace K90
open PySem L2 DL
abbrev dI (os : List Int) : D := .lst (os.map D.int)
/-- write_number, _law_number -/
def SWn (ds : List D) (r : R) : Prop := ∃ n, ds = [.int n] ∧ -99999 ≤ n ∧ n ≤ 99999 ∧ r = .own ((wnum n).map D.int)
def rnD : Option (Int × Int) → D
  | none => .non
  | some (v, p) => .tup [.int v, .int p]
def SRn (ds : List D) (r : R) : Prop := ∃ os a, ds = [dI os, .int (a : Nat)] ∧ Oct os ∧ os.length ≤ 1000 ∧ a ≤ 1000 ∧ r = .imm (rnD (rnum os a))
theorem at_oct {os : List Int} {i : Int} {k : Nat} (e : i = (k : Int)) (h : k < os.length) : (dI os).at i = some (.int (os.getD k 0)) := by
  subst e
  rw [at_ints (by omega) (by omega)]; rfl
theorem len_I {os : List Int} : (dI os).len = some os.length := by show some (os.map D.int).length = _; rw [List.length_map]
section
variable {P : Program} {w : World} {K : PySem.W.Frag} {mg : Str → Option Value} {base : Heap}
theorem zz_lt {n : Int} (h1 : -99999 ≤ n) (h2 : n ≤ 99999) : zz n < 128 ^ 7 := by unfold zz; split <;> omega
theorem c_wn (Ds : Defs K mg) (T : Blt mg) : Cal P w K mg base 1 "write_number" pWriteNumber (spP K SWn) := by
  refine cal_p Ds.dWriteNumber scWriteNumber (fun ds r ⟨_, e, _⟩ => by rw [e]; rfl) (fun f cdv A outer s H E hr ds r hS hres => ?_)
  obtain ⟨n, rfl, h1, h2, rfl⟩ := hS
  have nd := scWriteNumber.nd
  refine v_set 1 nd (ev_mul ev_int (ev_v 0) (.inl (by decide))) ?_
  refine v_ifJ [.imm (.int n), .imm (.int (zz n)), .any] (tv_lt (ev_v 0) ev_int) (fun h => ?_) (fun h => ?_) ?_
  · have h := of_decide_eq_true h
    refine v_set 1 nd (ev_sub (ev_mul (ev_neg ev_int) (ev_v 0) (.inl (by decide))) ev_int) (sv_nil ?_)
    unfold zz; rw [if_pos h]; exact Wk.refl _
  · have h := of_decide_eq_false h
    refine sv_nil ?_
    unfold zz; rw [if_neg h]; exact Wk.refl _
  refine v_set 2 nd (ev_lst (ds := []) av_nil rfl (by decide)) ?_
  refine v_while (fun k e => ∃ (m : Int) (acc : List Int), 0 ≤ m ∧ m < 128 ^ (k + 1) ∧ acc.length ≤ 6 - k ∧ k ≤ 6 ∧ acc ++ wnF k m = wnum n ∧ Wk e [.imm (.int n), .imm (.int m), .own (acc.map D.int)]) ⟨6, zz n, [], zz_nn n, zz_lt h1 h2, by simp, by omega, rfl, Wk.refl _⟩ ?_
  rintro k e ⟨m, acc, hm0, hm1, hl, hk, hw, hwk⟩
  have hz : acc.length ≤ 6 := by omega
  refine ⟨[.imm (.int n), .imm (.int m), .own (acc.map D.int)], decide (m > 127), TV.wk (tv_gt (ev_v 1) ev_int) hwk, fun h => ?_, fun h => ?_⟩
  · have h := of_decide_eq_true h
    cases k with
    | zero => simp at hm1; omega
    | succ k =>
      refine v_expr (ev_append (ev_l 2) (ev_add (ev_mod (ev_v 1) ev_int (by decide)) ev_int) rfl ⟨_, .inl rfl⟩ rfl (.inl rfl) (by rw [List.length_map]; omega)) ?_
      refine v_set 1 nd (ev_fdiv (ev_v 1) ev_int (by decide)) ?_
      refine sv_nil ⟨k, by omega, m.fdiv 128, acc ++ [m.fmod 128 + 128], ?_, ?_, by simp; omega, by omega, ?_, ?_⟩
      · rw [Int.fdiv_eq_ediv_of_nonneg _ (by omega)]; omega
      · rw [Int.fdiv_eq_ediv_of_nonneg _ (by omega)]
        have : (128 : Int) ^ (k + 1 + 1) = 128 ^ (k + 1) * 128 := Int.pow_succ _ _
        rw [this] at hm1
        exact Int.ediv_lt_of_lt_mul (by omega) hm1
      · rw [← hw, List.append_assoc]
        show acc ++ (m.fmod 128 + 128) :: wnF k (m.fdiv 128) = acc ++ wnF (k + 1) m
        rw [show wnF (k + 1) m = (m.fmod 128 + 128) :: wnF k (m.fdiv 128) from if_pos h]
      · rw [List.map_append]; exact Wk.refl _
  · have h := of_decide_eq_false h
    have e : wnF k m = [m] := by
      cases k with
      | zero => rfl
      | succ k => exact if_neg (by omega)
    refine v_expr (ev_append (ev_l 2) (ev_v 1) rfl ⟨_, .inl rfl⟩ rfl (.inl rfl) (by rw [List.length_map]; omega)) ?_
    refine v_retL (ev_l 2) ?_
    show R.own _ = R.own _
    rw [← hw, e, List.map_append]; rfl
theorem c_rn (Ds : Defs K mg) (T : Blt mg) : Cal P w K mg base 1 "read_number" pReadNumber (spP K SRn) := by
  refine cal_p Ds.dReadNumber scReadNumber (fun ds r ⟨_, _, e, _⟩ => by rw [e]; rfl) (fun f cdv A outer s H E hr ds r hS hres => ?_)
  obtain ⟨os, a, rfl, ho, hl, ha, rfl⟩ := hS
  have nd := scReadNumber.nd
  refine v_set 2 nd ev_int (v_set 3 nd ev_int (v_set 4 nd (ev_v 1) ?_))
  refine v_while (fun m e => ∃ (k : Nat) (t sc : Int), m = os.length - k ∧ a ≤ k ∧ (k = a ∨ k ≤ os.length) ∧ rdA (os.drop k) t sc (k - a) = rdA (os.drop a) 0 1 0 ∧ Wk e [.imm (dI os), .imm (.int (k : Nat)), .imm (.int t), .imm (.int sc), .imm (.int (a : Nat))]) ⟨_, a, 0, 1, rfl, Nat.le_refl _, .inl rfl, by rw [Nat.sub_self], Wk.refl _⟩ ?_
  rintro m e ⟨k, t, sc, rfl, hk, hk2, hv, hwk⟩
  by_cases hlt : k < os.length
  · obtain ⟨o1, o2⟩ := ho.getD hlt
    refine ⟨[.imm (dI os), .imm (.int (k : Nat)), .imm (.int t), .imm (.int sc), .imm (.int (a : Nat))], decide (os.getD k 0 > 127), TV.wk (TV.cast (WV.tv (WV.same (wv_and (p := decide (((k : Nat) : Int) < (os.length : Int))) (tv_lt (ev_v 1) (ev_len (ev_v 0) rfl len_I T.len)) (fun _ => wv_and1 (tv_gt (ev_at (ev_v 0) (ev_v 1) rfl (at_oct rfl hlt)) ev_int))))) (by simp [hlt])) hwk, fun h => ?_, fun h => ?_⟩
    · have h := of_decide_eq_true h
      refine v_addI 2 nd (ev_mul (ev_sub (ev_at (ev_v 0) (ev_v 1) rfl (at_oct rfl hlt)) ev_int) (ev_v 3) (.inl (by omega))) ?_
      refine v_mulI 3 nd ev_int (.inr (by decide)) (v_addI 1 nd ev_int (sv_nil ?_))
      refine ⟨os.length - (k + 1), by omega, k + 1, _, _, rfl, by omega, .inr (by omega), ?_, Wk.refl _⟩
      rw [← hv, drop_cons hlt]
      show _ = rdA (os.getD k 0 :: os.drop (k + 1)) t sc (k - a)
      conv => rhs; unfold rdA
      rw [if_pos h, show k + 1 - a = k - a + 1 by omega]
    · have h := of_decide_eq_false h
      -- the last octet
      have hv' : rnum os a = (if os.getD k 0 = 0 ∧ k - a > 0 then none else some (t + os.getD k 0 * sc, k - a + 1)).map fun x => (unzz x.1, (a : Int) + x.2) := by
        unfold rnum
        rw [← hv, drop_cons hlt]
        conv => lhs; unfold rdA
        rw [if_neg h]
      refine v_if (WV.tv (WV.same (wv_or (p := false) (q := decide (os.getD k 0 = 0 ∧ k - a > 0)) (TV.cast (tv_ge (ev_v 1) (ev_len (ev_v 0) rfl len_I T.len)) (decide_eq_false (by omega))) (fun _ => wv_or1 (TV.cast (WV.tv (WV.same (wv_and (tv_eq (ev_at (ev_v 0) (ev_v 1) rfl (at_oct rfl hlt)) ev_int) (fun _ => wv_and1 (tv_gt (ev_v 1) (ev_v 4)))))) (by rw [← Bool.decide_and]; exact decide_eq_decide.mpr (by omega))))))) (fun hq => ?_) (fun hq => sv_nil ?_)
      · have hq : os.getD k 0 = 0 ∧ k - a > 0 := by simpa using hq
        refine v_ret ev_non ?_
        show R.imm _ = R.imm _
        rw [hv', if_pos hq]; rfl
      · have hq : ¬ (os.getD k 0 = 0 ∧ k - a > 0) := by simpa using hq
        rw [if_neg hq] at hv'
        refine v_addI 2 nd (ev_mul (ev_at (ev_v 0) (ev_v 1) rfl (at_oct rfl hlt)) (ev_v 3) (.inl (by omega))) ?_
        have hp : (a : Int) + ((k - a + 1 : Nat) : Int) = (k : Int) + 1 := by omega
        refine v_if (tv_eq (ev_mod (ev_v 2) ev_int (by decide)) ev_int) (fun hz => ?_) (fun hz => sv_nil ?_)
        · have hz := of_decide_eq_true hz
          refine v_ret (ev_tup (ds := [_, _]) (av_1 (ev_fdiv (ev_neg (ev_add (ev_v 2) ev_int)) ev_int (by decide)) (av_1 (ev_add (ev_v 1) ev_int) av_nil)) rfl (by simp)) ?_
          show R.imm _ = R.imm _
          rw [hv']
          show _ = R.imm (.tup [.int (unzz (t + os.getD k 0 * sc)), .int ((a : Int) + ((k - a + 1 : Nat) : Int))])
          rw [hp, show unzz (t + os.getD k 0 * sc) = (-(t + os.getD k 0 * sc + 1)).fdiv 2 from if_pos hz]
        · have hz := of_decide_eq_false hz
          refine v_ret (ev_tup (ds := [_, _]) (av_1 (ev_fdiv (ev_v 2) ev_int (by decide)) (av_1 (ev_add (ev_v 1) ev_int) av_nil)) rfl (by simp)) ?_
          show R.imm _ = R.imm _
          rw [hv']
          show _ = R.imm (.tup [.int (unzz (t + os.getD k 0 * sc)), .int ((a : Int) + ((k - a + 1 : Nat) : Int))])
          rw [hp, show unzz (t + os.getD k 0 * sc) = (t + os.getD k 0 * sc).fdiv 2 from if_neg hz]
  · -- beyond the end
    refine ⟨[.imm (dI os), .imm (.int (k : Nat)), .imm (.int t), .imm (.int sc), .imm (.int (a : Nat))], false, TV.wk (TV.cast (WV.tv (WV.same (wv_and (p := decide (((k : Nat) : Int) < (os.length : Int))) (q := false) (tv_lt (ev_v 1) (ev_len (ev_v 0) rfl len_I T.len)) (fun h => absurd (of_decide_eq_true h) (by omega))))) (by simp)) hwk, fun h => (by cases h), fun _ => ?_⟩
    refine v_if (WV.tv (WV.same (wv_or (p := true) (q := false) (TV.cast (tv_ge (ev_v 1) (ev_len (ev_v 0) rfl len_I T.len)) (decide_eq_true (by omega))) (fun h => by cases h)))) (fun _ => ?_) (fun h => by cases h)
    refine v_ret ev_non ?_
    show R.imm _ = R.imm _
    have : rnum os a = none := by
      unfold rnum
      rw [← hv, List.drop_eq_nil_of_le (by omega)]; rfl
    rw [this]; rfl
end
end K90

set_option maxRecDepth 100000
set_option maxHeartbeats 4000000
namespace DL
open PySem L2
theorem cutD_nn {ds : List D} {a b : Int} (ha : 0 ≤ a) (hb : 0 ≤ b) : cutD ds (some a) (some b) = (ds.drop a.toNat).take (b.toNat - a.toNat) := by
  obtain ⟨m, rfl⟩ : ∃ m : Nat, a = (m : Int) := ⟨a.toNat, by omega⟩
  obtain ⟨n, rfl⟩ : ∃ n : Nat, b = (n : Int) := ⟨b.toNat, by omega⟩
  unfold cutD
  rw [HT.sIx_nat, HT.sIx_nat]
  simp only [Int.toNat_natCast]
  by_cases h : m ≤ ds.length
  · rw [Nat.min_eq_left h]
    by_cases h2 : n ≤ ds.length
    · rw [Nat.min_eq_left h2]
    · have e1 : min n ds.length = ds.length := by omega
      rw [e1, List.take_of_length_le (by simp), List.take_of_length_le (by simp; omega)]
  · have e1 : min m ds.length = ds.length := by omega
    rw [e1, List.drop_eq_nil_of_le (Nat.le_refl _), List.drop_eq_nil_of_le (show ds.length ≤ m by omega)]
    simp
theorem cutD_to {ds : List D} {b : Int} (hb : 0 ≤ b) : cutD ds none (some b) = ds.take b.toNat := by
  obtain ⟨n, rfl⟩ : ∃ n : Nat, b = (n : Int) := ⟨b.toNat, by omega⟩
  unfold cutD
  rw [HT.sIx_nat, HT.sIx_none]
  simp only [Int.toNat_natCast, List.drop_zero, Nat.sub_zero]
  by_cases h2 : n ≤ ds.length
  · rw [Nat.min_eq_left h2]
  · have e1 : min n ds.length = ds.length := by omega
    rw [e1, List.take_of_length_le (Nat.le_refl _), List.take_of_length_le (by omega)]
theorem cutD_from {ds : List D} {a : Int} (ha : 0 ≤ a) : cutD ds (some a) none = ds.drop a.toNat := by
  obtain ⟨m, rfl⟩ : ∃ m : Nat, a = (m : Int) := ⟨a.toNat, by omega⟩
  unfold cutD
  rw [HT.sIx_nat, HT.sIx_none]
  simp only [Int.toNat_natCast]
  by_cases h : m ≤ ds.length
  · rw [Nat.min_eq_left h, List.take_of_length_le (by simp)]
  · have e1 : min m ds.length = ds.length := by omega
    rw [e1, List.drop_eq_nil_of_le (Nat.le_refl _), List.drop_eq_nil_of_le (show ds.length ≤ m by omega)]
    simp
theorem sIx_neg1 (n d : Nat) : HT.sIx n d (some (-1)) = n - 1 := by
  show (if (-1 : Int) < 0 then ((-1 : Int) + (n : Int)).toNat else min (-1 : Int).toNat n) = n - 1
  rw [if_pos (by decide)]; omega
theorem cutD_init {ds : List D} : cutD ds none (some (-1)) = ds.dropLast := by
  unfold cutD
  rw [sIx_neg1, HT.sIx_none, List.drop_zero, Nat.sub_zero, List.dropLast_eq_take]
theorem ev_nil {X : Cx} {es : List R} {pos : Pos} : EV X es (.List [] pos) es (.own []) := ev_lst (ds := []) av_nil rfl (by decide)
theorem ev_l1 {X : Cx} {es es1 : List R} {a : Expr} {d : D} {pos : Pos} (h : EV X es a es1 (.imm d)) (hs : starEach [a] X.env = (false, eval a X.env) :: starEach [] X.env := by rfl) : EV X es (.List [a] pos) es1 (.own [d]) := ev_lst (ds := [d]) (av_1 h av_nil hs) rfl (by simp)
theorem ev_l2 {X : Cx} {es es1 es2 : List R} {a b : Expr} {d d' : D} {pos : Pos} (h : EV X es a es1 (.imm d)) (h2 : EV X es1 b es2 (.imm d')) (hs : starEach [a, b] X.env = (false, eval a X.env) :: starEach [b] X.env := by rfl) (hs2 : starEach [b] X.env = (false, eval b X.env) :: starEach [] X.env := by rfl) : EV X es (.List [a, b] pos) es2 (.own [d, d']) := ev_lst (ds := [d, d']) (av_1 h (av_1 h2 av_nil hs2) hs) rfl (by simp)
theorem ev_t2 {X : Cx} {es es1 es2 : List R} {a b : Expr} {d d' : D} {pos : Pos} {j : Nat} (h : EV X es a es1 (.imm d)) (h2 : EV X es1 b es2 (.imm d')) (hs : starEach [a, b] X.env = (false, eval a X.env) :: starEach [b] X.env := by rfl) (hs2 : starEach [b] X.env = (false, eval b X.env) :: starEach [] X.env := by rfl) : EV X es (.Tuple [a, b] j pos) es2 (.imm (.tup [d, d'])) := ev_tup (ds := [d, d']) (av_1 h (av_1 h2 av_nil hs2) hs) rfl (by simp)
theorem ev_t3 {X : Cx} {es es1 es2 es3 : List R} {a b c : Expr} {d d' d3 : D} {pos : Pos} {j : Nat} (h : EV X es a es1 (.imm d)) (h2 : EV X es1 b es2 (.imm d')) (h3 : EV X es2 c es3 (.imm d3)) (hs : starEach [a, b, c] X.env = (false, eval a X.env) :: starEach [b, c] X.env := by rfl) (hs2 : starEach [b, c] X.env = (false, eval b X.env) :: starEach [c] X.env := by rfl) (hs3 : starEach [c] X.env = (false, eval c X.env) :: starEach [] X.env := by rfl) : EV X es (.Tuple [a, b, c] j pos) es3 (.imm (.tup [d, d', d3])) :=
  ev_tup (ds := [d, d', d3]) (av_1 h (av_1 h2 (av_1 h3 av_nil hs3) hs2) hs) rfl (by simp)
end DL
namespace K90
open PySem L2 DL
section
variable {P : Program} {w : World} {K : PySem.W.Frag} {mg : Str → Option Value} {base : Heap}
theorem c_lnum (Ds : Defs K mg) (T : Blt mg) : Cal P w K mg base 1 "_law_number" pLawNumber (spP K SWn) := by
  refine cal_p Ds.dLawNumber scLawNumber (fun ds r ⟨_, e, _⟩ => by rw [e]; rfl) (fun f cdv A outer s H E hr ds r hS hres => ?_)
  obtain ⟨n, rfl, h1, h2, rfl⟩ := hS
  have nd := scLawNumber.nd
  refine v_set 1 nd (ev_mul ev_int (ev_v 0) (.inl (by decide))) ?_
  refine v_ifJ [.imm (.int n), .imm (.int (zz n)), .any, .any] (tv_lt (ev_v 0) ev_int) (fun h => ?_) (fun h => ?_) ?_
  · have h := of_decide_eq_true h
    refine v_set 1 nd (ev_sub (ev_mul (ev_neg ev_int) (ev_v 0) (.inl (by decide))) ev_int) (sv_nil ?_)
    unfold zz; rw [if_pos h]; exact Wk.refl _
  · have h := of_decide_eq_false h
    refine sv_nil ?_
    unfold zz; rw [if_neg h]; exact Wk.refl _
  refine v_set 2 nd ev_nil ?_
  refine v_for (fun k e => ∃ (m : Int) (acc : List Int), 0 ≤ m ∧ acc.length ≤ k ∧ acc ++ wnF (6 - k) m = wnum n ∧ Wk e [.imm (.int n), .imm (.int m), .own (acc.map D.int), .any]) (iv_range1 ev_int (by decide) (by decide) rfl T.range rfl) ⟨zz n, [], zz_nn n, Nat.le_refl _, rfl, Wk.refl _⟩ ?_ ?_
  · rintro k d e hd ⟨m, acc, hm0, hl, hw, hwk⟩
    obtain ⟨hk, rfl⟩ := rangeD_get hd
    have hk : k < 6 := by simpa using hk
    refine ⟨_, _, GV.wk (g_n 3 nd) hwk, ?_⟩
    refine v_if (tv_gt (ev_v 1) ev_int) (fun h => ?_) (fun h => ?_)
    · have h := of_decide_eq_true h
      refine v_expr (ev_append (ev_l 2) (ev_add ev_int (ev_mod (ev_intc (ev_v 1) T.int) ev_int (by decide))) rfl ⟨_, .inl rfl⟩ rfl (.inl rfl) (by rw [List.length_map]; omega)) ?_
      refine v_set 1 nd (ev_fdiv (ev_v 1) ev_int (by decide)) ?_
      refine sv_nil (sv_nil ⟨m.fdiv 128, acc ++ [128 + m.fmod 128], ?_, by simp; omega, ?_, ?_⟩)
      · rw [Int.fdiv_eq_ediv_of_nonneg _ (by omega)]; omega
      · rw [← hw, List.append_assoc, show 6 - k = (6 - (k + 1)) + 1 by omega]
        rw [show wnF ((6 - (k + 1)) + 1) m = (m.fmod 128 + 128) :: wnF (6 - (k + 1)) (m.fdiv 128) from if_pos h, Int.add_comm 128]; rfl
      · rw [List.map_append]
        exact Wk.same <| Wk.same <| Wk.same <| Wk.drop Wk.nil
    · have h := of_decide_eq_false h
      refine sv_nil (sv_nil ⟨m, acc, hm0, by omega, ?_, Wk.same <| Wk.same <| Wk.same <| Wk.drop Wk.nil⟩)
      rw [← hw, show 6 - k = (6 - (k + 1)) + 1 by omega]
      have e1 : ∀ j, wnF j m = [m] := fun j => by
        cases j with
        | zero => rfl
        | succ j => exact if_neg (by omega)
      rw [e1, e1]
  · rintro e ⟨m, acc, hm0, hl, hw, hwk⟩
    refine sv_wk ?_ hwk
    have hl : acc.length ≤ 6 := hl
    refine v_ret (ev_cat (ev_l 2) (ev_l1 (ev_v 1)) rfl rfl (by rw [List.length_map]; simp; omega)) ?_
    show R.own _ = R.own _
    rw [← hw]
    have : (rangeD 0 6).length = 6 := rfl
    rw [this, List.map_append]; rfl
theorem c_lrn (Ds : Defs K mg) (T : Blt mg) : Cal P w K mg base 1 "_law_read_number" pLawReadNumber (spP K SRn) := by
  refine cal_p Ds.dLawReadNumber scLawReadNumber (fun ds r ⟨_, _, e, _⟩ => by rw [e]; rfl) (fun f cdv A outer s H E hr ds r hS hres => ?_)
  obtain ⟨os, a, rfl, ho, hl, ha, rfl⟩ := hS
  have nd := scLawReadNumber.nd
  refine v_set 2 nd ev_int (v_set 3 nd ev_int ?_)
  refine v_for (fun i e => ∃ (t sc : Int), rdA (os.drop (a + i)) t sc i = rdA (os.drop a) 0 1 0 ∧ Wk e [.imm (dI os), .imm (.int (a : Nat)), .imm (.int t), .imm (.int sc), .any]) (iv_range2 (ev_v 1) (ev_len (ev_v 0) rfl len_I T.len) (by omega) rfl T.range rfl rfl) ⟨0, 1, rfl, Wk.refl _⟩ ?_ ?_
  · rintro i d e hd ⟨t, sc, hv, hwk⟩
    obtain ⟨hi, rfl⟩ := rangeD_get hd
    have hlt : a + i < os.length := by omega
    obtain ⟨o1, o2⟩ := ho.getD hlt
    have ek : ((a : Nat) : Int) + ((i : Nat) : Int) = ((a + i : Nat) : Int) := by omega
    rw [ek]
    refine ⟨_, _, GV.wk (g_n 4 nd) hwk, ?_⟩
    have eat := at_oct (os := os) rfl hlt
    refine v_set 2 nd (ev_add (ev_v 2) (ev_mul (ev_mod (ev_intc (ev_at (ev_v 0) (ev_v 4) rfl eat) T.int) ev_int (by decide)) (ev_v 3) (.inl (by rw [Int.fmod_eq_emod_of_nonneg _ (by omega)]; omega)))) ?_
    refine v_set 3 nd (ev_mul (ev_v 3) ev_int (.inr (by decide))) ?_
    refine v_if (tv_lt (ev_at (ev_v 0) (ev_v 4) rfl eat) ev_int) (fun h => ?_) (fun h => ?_)
    · have h := of_decide_eq_true h
      have em : (os.getD (a + i) 0).fmod 128 = os.getD (a + i) 0 := by rw [Int.fmod_eq_emod_of_nonneg _ (by omega)]; omega
      rw [em]
      have hv' : rnum os a = (if os.getD (a + i) 0 = 0 ∧ i > 0 then none else some (t + os.getD (a + i) 0 * sc, i + 1)).map fun x => (unzz x.1, (a : Int) + x.2) := by
        unfold rnum
        rw [← hv, drop_cons hlt]
        conv => lhs; unfold rdA
        rw [if_neg (by omega)]
      refine v_if (TV.cast (q := decide (os.getD (a + i) 0 = 0 ∧ i > 0)) (WV.tv (WV.same (wv_and (tv_eq (ev_at (ev_v 0) (ev_v 4) rfl eat) ev_int) (fun _ => wv_and1 (tv_gt (ev_v 4) (ev_v 1)))))) (by rw [← Bool.decide_and]; exact decide_eq_decide.mpr (by omega))) (fun hq => ?_) (fun hq => sv_nil ?_)
      · have hq : os.getD (a + i) 0 = 0 ∧ i > 0 := of_decide_eq_true hq
        refine v_ret ev_non ?_
        show R.imm _ = R.imm _
        rw [hv', if_pos hq]; rfl
      · have hq : ¬ (os.getD (a + i) 0 = 0 ∧ i > 0) := of_decide_eq_false hq
        rw [if_neg hq] at hv'
        have hp : (a : Int) + ((i + 1 : Nat) : Int) = ((a + i : Nat) : Int) + 1 := by omega
        refine v_if (tv_eq (ev_mod (ev_intc (ev_v 2) T.int) ev_int (by decide)) ev_int) (fun hz => ?_) (fun hz => sv_nil ?_)
        · have hz := of_decide_eq_true hz
          refine v_ret (ev_t2 (ev_neg (ev_fdiv (ev_add (ev_v 2) ev_int) ev_int (by decide))) (ev_add (ev_v 4) ev_int)) ?_
          show R.imm _ = R.imm _
          rw [hv']
          show _ = R.imm (.tup [.int (unzz (t + os.getD (a + i) 0 * sc)), .int ((a : Int) + ((i + 1 : Nat) : Int))])
          rw [hp, show unzz (t + os.getD (a + i) 0 * sc) = (-(t + os.getD (a + i) 0 * sc + 1)).fdiv 2 from if_pos hz]
          generalize t + os.getD (a + i) 0 * sc = v at hz ⊢
          rw [Int.fmod_eq_emod_of_nonneg _ (by omega)] at hz
          rw [Int.fdiv_eq_ediv_of_nonneg _ (by omega), Int.fdiv_eq_ediv_of_nonneg _ (by omega), show -((v + 1) / 2) = -(v + 1) / 2 by omega]
        · have hz := of_decide_eq_false hz
          refine v_ret (ev_t2 (ev_fdiv (ev_v 2) ev_int (by decide)) (ev_add (ev_v 4) ev_int)) ?_
          show R.imm _ = R.imm _
          rw [hv']
          show _ = R.imm (.tup [.int (unzz (t + os.getD (a + i) 0 * sc)), .int ((a : Int) + ((i + 1 : Nat) : Int))])
          rw [hp, show unzz (t + os.getD (a + i) 0 * sc) = (t + os.getD (a + i) 0 * sc).fdiv 2 from if_neg hz]
    · have h := of_decide_eq_false h
      refine sv_nil (sv_nil ⟨_, _, ?_, Wk.same <| Wk.same <| Wk.same <| Wk.same <| Wk.drop Wk.nil⟩)
      rw [← hv, drop_cons hlt]
      conv => rhs; unfold rdA
      rw [if_pos (by omega), show (os.getD (a + i) 0).fmod 128 = os.getD (a + i) 0 - 128 by rw [Int.fmod_eq_emod_of_nonneg _ (by omega)]; omega]; rfl
  · rintro e ⟨t, sc, hv, hwk⟩
    refine sv_wk ?_ hwk
    refine v_ret ev_non ?_
    show R.imm _ = R.imm _
    have : rnum os a = none := by
      unfold rnum
      rw [← hv, List.drop_eq_nil_of_le (by rw [rangeD_len]; omega)]; rfl
    rw [this]; rfl
end
end K90

set_option maxRecDepth 100000
set_option maxHeartbeats 4000000
namespace DL
open PySem L2
theorem at_t {ds : List D} {d : D} {i : Int} (n : Nat) (h : ds[n]? = some d := by rfl) (e : i = (n : Int) := by rfl) : (D.tup ds).at i = some d := by rw [e]; exact at_tup h
theorem at_l {ds : List D} {d : D} {i : Int} (n : Nat) (h : ds[n]? = some d := by rfl) (e : i = (n : Int) := by rfl) : (D.lst ds).at i = some d := by rw [e]; exact at_lst h
end DL
namespace K90
open PySem L2 DL
def letters : Str := "abcdefghijklmnopqrstuvwxyz"
def sgn (o : Int) : Str := ⟨#[(o + 96).toNat]⟩
theorem letters_ix {o : Int} (h1 : 1 ≤ o) (h2 : o ≤ 26) : PySem.Txt.index0 letters (sgn o) = some (o - 1).toNat := by
  have key : ∀ i : Fin 26, PySem.Txt.index0 letters ⟨#[(i : Nat) + 97]⟩ = some (i : Nat) := by decide +kernel
  have e := key ⟨(o - 1).toNat, by omega⟩
  simp only at e
  unfold sgn
  rw [show (o + 96).toNat = (o - 1).toNat + 97 by omega]; exact e
theorem letters_at {o : Int} (h1 : 1 ≤ o) (h2 : o ≤ 26) : (D.str letters).at (o - 1) = some (.str (sgn o)) := by
  have key : ∀ i : Fin 26, letters.cps.toList[(i : Nat)]? = some ((i : Nat) + 97) := by decide +kernel
  have e := key ⟨(o - 1).toNat, by omega⟩
  simp only at e
  have hl : letters.length ≤ 1000000 := by decide +kernel
  show (if letters.length ≤ 1000000 then (atI letters.cps.toList (o - 1)).map fun c => D.str ⟨#[c]⟩ else none) = _
  rw [if_pos hl, show o - 1 = (((o - 1).toNat : Nat) : Int) by omega, atI_nat e]
  unfold sgn
  rw [show (o + 96).toNat = (o - 1).toNat + 97 by omega]; rfl
theorem wordOf_len (ls : List Int) : (wordOf ls).length = ls.length := by
  show (ls.map fun o => (o + 96).toNat).toArray.size = _
  simp
theorem signs_word (ls : List Int) : signs (wordOf ls) = ls.map fun o => .str (sgn o) := by
  unfold signs wordOf sgn
  simp [List.map_map, Function.comp_def]
theorem join_word : ∀ ls : List Int, PySem.Str.join "" (ls.map sgn) = wordOf ls
  | [] => rfl
  | [o] => rfl
  | o :: p :: ls => by
    have ih := join_word (p :: ls)
    show sgn o ++ "" ++ PySem.Str.join "" ((p :: ls).map sgn) = _
    rw [ih]
    apply congrArg PySem.Str.mk
    show (#[(o + 96).toNat] ++ ("" : Str).cps) ++ ((p :: ls).map fun o => (o + 96).toNat).toArray = _
    apply Array.ext'
    simp
    decide +kernel
def SWw (ds : List D) (r : R) : Prop := ∃ ls, ds = [.str (wordOf ls)] ∧ Let ls ∧ r = .own ((lword ls).map D.int)
def rwD : Option (List Int × Int) → D
  | none => .non
  | some (ls, p) => .tup [.str (wordOf ls), .int p]
def SRw (ds : List D) (r : R) : Prop := ∃ os a, ds = [dI os, .int (a : Nat)] ∧ Oct os ∧ os.length ≤ 1000 ∧ a ≤ 1000 ∧ r = .imm (rwD (rword os a))
def SCk (ds : List D) (r : R) : Prop := ∃ os, ds = [dI os] ∧ os.length ≤ 1000 ∧ r = .imm (.int (chk os))
section
variable {P : Program} {w : World} {K : PySem.W.Frag} {mg : Str → Option Value} {base : Heap}
theorem c_ww (Ds : Defs K mg) (T : Blt mg) (G : Glb K mg) : Cal P w K mg base 1 "write_word" pWriteWord (spP K SWw) := by
  refine cal_p Ds.dWriteWord scWriteWord (fun ds r ⟨_, e, _⟩ => by rw [e]; rfl) (fun f cdv A outer s H E hr ds r hS hres => ?_)
  obtain ⟨ls, rfl, hl, rfl⟩ := hS
  have nd := scWriteWord.nd
  obtain ⟨tL, gL⟩ := G.gLETTERS
  have hlen : (D.str (wordOf ls)).len = some ls.length := by
    show (if (wordOf ls).length ≤ 1000000 then some (wordOf ls).length else none) = _
    rw [wordOf_len, if_pos (by have := hl.1; omega)]
  refine v_ret (ev_cat (ds := [.int ls.length]) (ds' := ls.map D.int) (ev_l1 (ev_len (ev_v 0) rfl hlen T.len)) (ev_lcM (own := [("letter", 1)]) ls (fun o => .str (sgn o)) D.int (signs_word ls ▸ iv_str (ev_v 0)) (by have := hl.1; omega) (fun k o hk => ?_) nd nWriteWord (defScope sWriteWord)) rfl rfl (by simp; have := hl.1; omega)) ?_
  · obtain ⟨b1, b2⟩ := hl.2 o (List.mem_of_getElem? hk)
    refine ⟨_, [1], _, fun _ _ _ _ _ => g_n 1 nd, by decide, fun _ _ _ _ _ => EV.cast (ev_add (ev_strIndex (ev_gstr gL) (ev_v 1) (letters_ix b1 b2)) ev_int) (by rw [show (((o - 1).toNat : Nat) : Int) + 1 = o by omega]), rfl⟩
  · rfl
theorem c_lww (Ds : Defs K mg) (T : Blt mg) (G : Glb K mg) : Cal P w K mg base 1 "_law_letters" pLawLetters (spP K SWw) := by
  refine cal_p Ds.dLawLetters scLawLetters (fun ds r ⟨_, e, _⟩ => by rw [e]; rfl) (fun f cdv A outer s H E hr ds r hS hres => ?_)
  obtain ⟨ls, rfl, hl, rfl⟩ := hS
  have nd := scLawLetters.nd
  have hlen : (D.str (wordOf ls)).len = some ls.length := by
    show (if (wordOf ls).length ≤ 1000000 then some (wordOf ls).length else none) = _
    rw [wordOf_len, if_pos (by have := hl.1; omega)]
  refine v_ret (ev_cat (ds := [.int ls.length]) (ds' := ls.map D.int) (ev_l1 (ev_len (ev_v 0) rfl hlen T.len)) (ev_lcM (own := [("letter", 1)]) ls (fun o => .str (sgn o)) D.int (signs_word ls ▸ iv_str (ev_v 0)) (by have := hl.1; omega) (fun k o hk => ?_) nd nLawLetters (defScope sLawLetters)) rfl rfl (by simp; have := hl.1; omega)) ?_
  · obtain ⟨b1, b2⟩ := hl.2 o (List.mem_of_getElem? hk)
    refine ⟨_, [1], _, fun _ _ _ _ _ => g_n 1 nd, by decide, fun _ _ _ _ _ => EV.cast (ev_add (ev_strIndex ev_str (ev_v 1) (letters_ix b1 b2)) ev_int) (by rw [show (((o - 1).toNat : Nat) : Int) + 1 = o by omega]), rfl⟩
  · rfl
theorem chk_succ {os : List Int} {k : Nat} {o : Int} (h : os[k]? = some o) : chk (os.take (k + 1)) = (chk (os.take k) * 43 + o).fmod 251 := by
  unfold chk
  rw [List.take_succ, h, List.foldl_append]; rfl
theorem c_ck (Ds : Defs K mg) (T : Blt mg) : Cal P w K mg base 1 "check_of" pCheckOf (spP K SCk) := by
  refine cal_p Ds.dCheckOf scCheckOf (fun ds r ⟨_, e, _⟩ => by rw [e]; rfl) (fun f cdv A outer s H E hr ds r hS hres => ?_)
  obtain ⟨os, rfl, hl, rfl⟩ := hS
  have nd := scCheckOf.nd
  refine v_set 1 nd ev_int ?_
  refine v_forP (fun k => [.imm (dI os), .imm (.int (chk (os.take k))), .any]) (iv_list (ev_v 0)) (Wk.refl _) ?_ ?_
  · intro k d hd
    rw [List.getElem?_map] at hd
    cases q : os[k]? with
    | none => rw [q] at hd; cases hd
    | some o =>
      rw [q] at hd
      have hd : D.int o = d := Option.some.inj hd
      subst hd
      refine ⟨_, _, g_n 2 nd, v_set 1 nd (ev_mod (ev_add (ev_mul (ev_v 1) ev_int (.inr (by decide))) (ev_v 2)) ev_int (by decide)) (sv_nil ?_)⟩
      rw [chk_succ q]
      exact Wk.same <| Wk.same <| Wk.drop Wk.nil
  · refine v_ret (ev_v 1) ?_
    show R.imm _ = R.imm _
    rw [List.length_map, List.take_length]
theorem c_lck (Ds : Defs K mg) (T : Blt mg) : Cal P w K mg base 1 "_law_check" pLawCheck (spP K SCk) := by
  refine cal_p Ds.dLawCheck scLawCheck (fun ds r ⟨_, e, _⟩ => by rw [e]; rfl) (fun f cdv A outer s H E hr ds r hS hres => ?_)
  obtain ⟨os, rfl, hl, rfl⟩ := hS
  have nd := scLawCheck.nd
  refine v_set 1 nd ev_int ?_
  refine v_forP (fun k => [.imm (dI os), .imm (.int (chk (os.take k))), .any]) (iv_list (ev_v 0)) (Wk.refl _) ?_ ?_
  · intro k d hd
    rw [List.getElem?_map] at hd
    cases q : os[k]? with
    | none => rw [q] at hd; cases hd
    | some o =>
      rw [q] at hd
      have hd : D.int o = d := Option.some.inj hd
      subst hd
      refine ⟨_, _, g_n 2 nd, v_set 1 nd (ev_mod (ev_intc (ev_add (ev_mul (ev_v 1) ev_int (.inr (by decide))) (ev_v 2)) T.int) ev_int (by decide)) (sv_nil ?_)⟩
      rw [chk_succ q]
      exact Wk.same <| Wk.same <| Wk.drop Wk.nil
  · refine v_ret (ev_v 1) ?_
    show R.imm _ = R.imm _
    rw [List.length_map, List.take_length]
end
end K90

set_option maxRecDepth 100000
set_option maxHeartbeats 4000000
namespace K90
open PySem L2 DL
section
variable {P : Program} {w : World} {K : PySem.W.Frag} {mg : Str → Option Value} {base : Heap}
theorem map_all (f : Int → Bool) (xs : List Int) : (xs.map f).all id = xs.all f := by rw [List.all_map]; rfl
theorem c_rw (Ds : Defs K mg) (T : Blt mg) (G : Glb K mg) : Cal P w K mg base 1 "read_word" pReadWord (spP K SRw) := by
  refine cal_p Ds.dReadWord scReadWord (fun ds r ⟨_, _, e, _⟩ => by rw [e]; rfl) (fun f cdv A outer s H E hr ds r hS hres => ?_)
  obtain ⟨os, a, rfl, ho, hl, ha, rfl⟩ := hS
  have nd := scReadWord.nd
  obtain ⟨tL, gL⟩ := G.gLETTERS
  have lenE : ∀ es : List R, es[0]? = some (.imm (dI os)) → True := fun _ _ => trivial
  by_cases hlt : a < os.length
  · obtain ⟨o1, o2⟩ := ho.getD hlt
    have eat := at_oct (os := os) rfl hlt
    refine v_if (TV.cast (q := decide (a ≥ os.length ∨ os.getD a 0 > 9 ∨ (a : Int) + os.getD a 0 ≥ os.length)) (WV.tv (WV.same (wv_or (tv_ge (ev_v 1) (ev_len (ev_v 0) rfl len_I T.len)) (fun _ => WV.same (wv_or (tv_gt (ev_at (ev_v 0) (ev_v 1) rfl eat) ev_int) (fun _ => wv_or1 (tv_ge (ev_add (ev_v 1) (ev_at (ev_v 0) (ev_v 1) rfl eat)) (ev_len (ev_v 0) rfl len_I T.len)))))))) (by rw [← Bool.decide_or, ← Bool.decide_or]; exact decide_eq_decide.mpr (by omega))) (fun h => ?_) (fun h => sv_nil ?_)
    · have h := of_decide_eq_true h
      refine v_ret ev_non ?_
      show R.imm _ = R.imm _
      unfold rword; rw [if_pos h]; rfl
    · have h := of_decide_eq_false h
      have ec : cutD (os.map D.int) (some ((a : Int) + 1)) (some ((a : Int) + 1 + os.getD a 0)) = ((os.drop (a + 1)).take (os.getD a 0).toNat).map D.int := by
        rw [cutD_nn (by omega) (by omega), List.map_take, List.map_drop, show ((a : Int) + 1).toNat = a + 1 by omega, show ((a : Int) + 1 + os.getD a 0).toNat - (a + 1) = (os.getD a 0).toNat by omega]
      generalize hrows : (os.drop (a + 1)).take (os.getD a 0).toNat = rows at ec
      have hrl : rows.length ≤ 1000 := by rw [← hrows, List.length_take, List.length_drop]; omega
      have hro : Oct rows := by rw [← hrows]; exact (ho.drop _).take _
      refine v_set 2 nd (ev_slice (ds := os.map D.int) (ev_v 0) (ov_some (ev_add (ev_v 1) ev_int)) (ov_some (ev_add (ev_add (ev_v 1) ev_int) (ev_at (ev_v 0) (ev_v 1) rfl eat))) rfl) ?_
      rw [ec]
      refine sv_fz (j := 2) (ds := rows.map D.int) rfl ?_
      refine v_if (TV.cast (q := !rows.all (fun o => decide (1 ≤ o) && decide (o ≤ 26))) (tv_not (tv_v (ev_all (bs := rows.map fun o => decide (1 ≤ o) && decide (o ≤ 26)) rfl (ev_lcM (own := [("octet", 3)]) rows D.int (fun o => .bl (decide (1 ≤ o) && decide (o ≤ 26))) (iv_list (ev_v 2)) (by omega) (fun k o hk => ?_) nd nReadWord (defScope sReadWord)) (by rw [List.map_map]; rfl) T.all))) (by rw [map_all])) (fun hq => ?_) (fun hq => sv_nil ?_)
      · exact ⟨_, [3], _, fun _ _ _ _ _ => g_n 3 nd, by decide, fun _ _ _ _ _ => ev_lele ev_int (ev_v 3) ev_int, rfl⟩
      · refine v_ret ev_non ?_
        show R.imm _ = R.imm _
        have hq : ¬ rows.all (fun o => decide (1 ≤ o) && decide (o ≤ 26)) = true := by simpa using hq
        unfold rword; rw [if_neg h]; simp only [hrows]; rw [if_neg hq]; rfl
      · have hq : rows.all (fun o => decide (1 ≤ o) && decide (o ≤ 26)) = true := by simpa using hq
        have hb : ∀ o ∈ rows, 1 ≤ o ∧ o ≤ 26 := fun o ho => by simpa using List.all_eq_true.mp hq o ho
        refine v_ret (ev_t2 (ev_join (ys := rows.map sgn) ev_str (ev_lcM (own := [("octet", 3)]) rows D.int (fun o => .str (sgn o)) (iv_list (ev_v 2)) (by omega) (fun k o hk => ?_) nd nReadWord (defScope sReadWord)) (by rw [List.map_map]; rfl) ?_) (ev_add (ev_add (ev_v 1) ev_int) (ev_at (ev_v 0) (ev_v 1) rfl eat))) ?_
        · obtain ⟨b1, b2⟩ := hb o (List.mem_of_getElem? hk)
          exact ⟨_, [3], _, fun _ _ _ _ _ => g_n 3 nd, by decide, fun _ _ _ _ _ => ev_at (ev_gstr gL) (ev_sub (ev_v 3) ev_int) rfl (letters_at b1 b2), rfl⟩
        · have : ∀ xs : List Int, ((xs.map sgn).map (·.length)).sum = xs.length := fun xs => by
            induction xs with
            | nil => rfl
            | cons x xs ih => rw [List.map_cons, List.map_cons, List.sum_cons, ih]; show 1 + xs.length = _; simp; omega
          rw [this]
          show rows.length + (rows.map sgn).length * 0 ≤ 1000000
          omega
        · show R.imm _ = R.imm _
          have e2 : rword os a = some (rows, (a : Int) + 1 + os.getD a 0) := by
            unfold rword; rw [if_neg h]; simp only [hrows]; rw [if_pos hq]
          rw [e2]
          show R.imm (.tup [.str (PySem.Txt.join "" (rows.map sgn)), _]) = R.imm (.tup [.str (wordOf rows), _])
          rw [TL.join_eq, join_word]
  · refine v_if (WV.tv (WV.same (wv_or (p := true) (q := false) (TV.cast (tv_ge (ev_v 1) (ev_len (ev_v 0) rfl len_I T.len)) (decide_eq_true (by omega))) (fun h => by cases h)))) (fun _ => ?_) (fun h => by cases h)
    refine v_ret ev_non ?_
    show R.imm _ = R.imm _
    unfold rword; rw [if_pos (by omega)]; rfl
theorem c_lrw (Ds : Defs K mg) (T : Blt mg) (G : Glb K mg) : Cal P w K mg base 1 "_law_read_word" pLawReadWord (spP K SRw) := by
  refine cal_p Ds.dLawReadWord scLawReadWord (fun ds r ⟨_, _, e, _⟩ => by rw [e]; rfl) (fun f cdv A outer s H E hr ds r hS hres => ?_)
  obtain ⟨os, a, rfl, ho, hl, ha, rfl⟩ := hS
  have nd := scLawReadWord.nd
  obtain ⟨tL, gL⟩ := G.gLETTERS
  have lenE : ∀ es : List R, es[0]? = some (.imm (dI os)) → True := fun _ _ => trivial
  by_cases hlt : a < os.length
  · obtain ⟨o1, o2⟩ := ho.getD hlt
    have eat := at_oct (os := os) rfl hlt
    refine v_if (TV.cast (q := decide (a ≥ os.length ∨ os.getD a 0 > 9 ∨ (a : Int) + os.getD a 0 ≥ os.length)) (WV.tv (WV.same (wv_or (tv_ge (ev_v 1) (ev_len (ev_v 0) rfl len_I T.len)) (fun _ => WV.same (wv_or (tv_gt (ev_at (ev_v 0) (ev_v 1) rfl eat) ev_int) (fun _ => wv_or1 (tv_gt (ev_add (ev_add (ev_v 1) ev_int) (ev_at (ev_v 0) (ev_v 1) rfl eat)) (ev_len (ev_v 0) rfl len_I T.len)))))))) (by rw [← Bool.decide_or, ← Bool.decide_or]; exact decide_eq_decide.mpr (by omega))) (fun h => ?_) (fun h => sv_nil ?_)
    · have h := of_decide_eq_true h
      refine v_ret ev_non ?_
      show R.imm _ = R.imm _
      unfold rword; rw [if_pos h]; rfl
    · have h := of_decide_eq_false h
      have ec : cutD (os.map D.int) (some ((a : Int) + 1)) (some ((a : Int) + 1 + os.getD a 0)) = ((os.drop (a + 1)).take (os.getD a 0).toNat).map D.int := by
        rw [cutD_nn (by omega) (by omega), List.map_take, List.map_drop, show ((a : Int) + 1).toNat = a + 1 by omega, show ((a : Int) + 1 + os.getD a 0).toNat - (a + 1) = (os.getD a 0).toNat by omega]
      generalize hrows : (os.drop (a + 1)).take (os.getD a 0).toNat = rows at ec
      have hrl : rows.length ≤ 1000 := by rw [← hrows, List.length_take, List.length_drop]; omega
      have hro : Oct rows := by rw [← hrows]; exact (ho.drop _).take _
      refine v_set 2 nd (ev_slice (ds := os.map D.int) (ev_v 0) (ov_some (ev_add (ev_v 1) ev_int)) (ov_some (ev_add (ev_add (ev_v 1) ev_int) (ev_at (ev_v 0) (ev_v 1) rfl eat))) rfl) ?_
      rw [ec]
      refine sv_fz (j := 2) (ds := rows.map D.int) rfl ?_
      refine v_if (TV.cast (q := !rows.all (fun o => decide (1 ≤ o) && decide (o ≤ 26))) (tv_neI (ns := rows.filter fun o => !(decide (1 ≤ o) && decide (o ≤ 26))) (ms := []) hr.units (ev_lcF (own := [("octet", 3)]) rows D.int (fun o => !(decide (1 ≤ o) && decide (o ≤ 26))) D.int (iv_list (ev_v 2)) (by omega) (fun k o hk => ?_) nd nLawReadWord (defScope sLawReadWord)) ev_nil rfl rfl) ?_) (fun hq => ?_) (fun hq => sv_nil ?_)
      · exact ⟨_, [3], _, fun _ _ _ _ _ => g_n 3 nd, by decide, fun _ _ _ _ _ => tv_not (tv_lele ev_int (ev_v 3) ev_int), rfl, fun _ => ⟨_, fun _ _ _ _ _ => ev_v 3, rfl⟩⟩
      · rw [Bool.eq_iff_iff]; simp
      · refine v_ret ev_non ?_
        show R.imm _ = R.imm _
        have hq : ¬ rows.all (fun o => decide (1 ≤ o) && decide (o ≤ 26)) = true := by simpa using hq
        unfold rword; rw [if_neg h]; simp only [hrows]; rw [if_neg hq]; rfl
      · have hq : rows.all (fun o => decide (1 ≤ o) && decide (o ≤ 26)) = true := by simpa using hq
        have hb : ∀ o ∈ rows, 1 ≤ o ∧ o ≤ 26 := fun o ho => by simpa using List.all_eq_true.mp hq o ho
        refine v_ret (ev_t2 (ev_join (ys := rows.map sgn) ev_str (ev_lcM (own := [("octet", 3)]) rows D.int (fun o => .str (sgn o)) (iv_list (ev_v 2)) (by omega) (fun k o hk => ?_) nd nLawReadWord (defScope sLawReadWord)) (by rw [List.map_map]; rfl) ?_) (ev_add (ev_add (ev_v 1) ev_int) (ev_at (ev_v 0) (ev_v 1) rfl eat))) ?_
        · obtain ⟨b1, b2⟩ := hb o (List.mem_of_getElem? hk)
          exact ⟨_, [3], _, fun _ _ _ _ _ => g_n 3 nd, by decide, fun _ _ _ _ _ => ev_at ev_str (ev_sub (ev_v 3) ev_int) rfl (letters_at b1 b2), rfl⟩
        · have : ∀ xs : List Int, ((xs.map sgn).map (·.length)).sum = xs.length := fun xs => by
            induction xs with
            | nil => rfl
            | cons x xs ih => rw [List.map_cons, List.map_cons, List.sum_cons, ih]; show 1 + xs.length = _; simp; omega
          rw [this]
          show rows.length + (rows.map sgn).length * 0 ≤ 1000000
          omega
        · show R.imm _ = R.imm _
          have e2 : rword os a = some (rows, (a : Int) + 1 + os.getD a 0) := by
            unfold rword; rw [if_neg h]; simp only [hrows]; rw [if_pos hq]
          rw [e2]
          show R.imm (.tup [.str (PySem.Txt.join "" (rows.map sgn)), _]) = R.imm (.tup [.str (wordOf rows), _])
          rw [TL.join_eq, join_word]
  · refine v_if (WV.tv (WV.same (wv_or (p := true) (q := false) (TV.cast (tv_ge (ev_v 1) (ev_len (ev_v 0) rfl len_I T.len)) (decide_eq_true (by omega))) (fun h => by cases h)))) (fun _ => ?_) (fun h => by cases h)
    refine v_ret ev_non ?_
    show R.imm _ = R.imm _
    unfold rword; rw [if_pos (by omega)]; rfl
end
end K90

set_option maxRecDepth 100000
set_option maxHeartbeats 4000000
namespace K90
open PySem L2 DL
def kinds : List Str := ["cash", "play", "price", "show", "sell", "back", "close"]
def kd (k : Nat) : Str := kinds.getD k ""
theorem kd_at {k : Nat} (h : k < 7) : kinds[k]? = some (kd k) := by
  unfold kd
  rw [List.getD_eq_getElem?_getD]
  have : k < kinds.length := h
  rw [List.getElem?_eq_getElem this]; rfl
theorem kd_no {k : Nat} (h : k < 7) : ∀ m, m < k → kinds[m]? ≠ some (kd k) := by
  have key : ∀ k : Fin 7, ∀ m : Fin 7, m.1 < k.1 → kinds[m.1]? ≠ some (kd k.1) := by decide +kernel
  intro m hm
  exact key ⟨k, h⟩ ⟨m, by omega⟩ hm
def ddD (d : Dd) : D := .tup [.str (kd d.k), .str (wordOf d.w), .int d.n]
def rrD : Option (Dd × Int) → D
  | none => .non
  | some (d, p) => .tup [ddD d, .int p]
def SSl (ds : List D) (r : R) : Prop := ∃ os, ds = [dI os] ∧ os.length ≤ 1000 ∧ r = .own ((sealed os).map D.int)
def SRec (ds : List D) (r : R) : Prop := ∃ d, ds = [ddD d] ∧ d.Ok ∧ r = .own ((rec d).map D.int)
def SRr (ds : List D) (r : R) : Prop := ∃ os a, ds = [dI os, .int (a : Nat)] ∧ Oct os ∧ os.length ≤ 1000 ∧ a ≤ 1000 ∧ r = .imm (rrD (rrec os a))
def SApp (ds : List D) (r : R) : Prop := ∃ os a d, ds = [dI os, .int (a : Nat), ddD d] ∧ os.length ≤ 1000 ∧ d.Ok ∧ r = .own ((os.take a ++ rec d).map D.int)
def SKinds (ds : List D) (r : R) : Prop := ds = [] ∧ r = .own (kinds.map D.str)
theorem wnum_len (n : Int) : (wnum n).length ≤ 7 := (wnF_len 6 _).1
theorem body_len (d : Dd) (h : d.Ok) : (body d).length ≤ 18 := by
  have h1 := h.w.1
  have h2 := wnum_len d.n
  simp [body, lword]; omega
section
variable {P : Program} {w : World} {K : PySem.W.Frag} {mg : Str → Option Value} {base : Heap}
theorem c_sl (Ds : Defs K mg) (T : Blt mg) : Cal P w K mg base 2 "_law_sealed" pLawSealed (spP K SSl) := by
  refine cal_p Ds.dLawSealed scLawSealed (fun ds r ⟨_, e, _⟩ => by rw [e]; rfl) (fun f cdv A outer s H E hr ds r hS hres => ?_)
  obtain ⟨os, rfl, hl, rfl⟩ := hS
  refine v_ret (ev_cat (ds := .int os.length :: os.map D.int) (ds' := [.int (chk os)]) (ev_cat (ds := [.int os.length]) (ds' := os.map D.int) (ev_l1 (ev_len (ev_v 0) rfl len_I T.len)) (ev_v 0) rfl rfl (by simp; omega)) (ev_l1 (ev_c (c_lck Ds T) hr (av_1 (ev_v 0) av_nil) ⟨os, rfl, hl, rfl⟩)) rfl rfl (by simp; omega)) ?_
  show R.own _ = R.own _
  simp [sealed]
theorem c_kinds (Ds : Defs K mg) (T : Blt mg) : Cal P w K mg base 1 "_law_kinds" pLawKinds (spP K SKinds) := by
  refine cal_p Ds.dLawKinds scLawKinds (fun ds r ⟨e, _⟩ => by rw [e]; rfl) (fun f cdv A outer s H E hr ds r hS hres => ?_)
  obtain ⟨rfl, rfl⟩ := hS
  exact v_ret (ev_lst (ds := kinds.map D.str) (av_1 ev_str <| av_1 ev_str <| av_1 ev_str <| av_1 ev_str <| av_1 ev_str <| av_1 ev_str <| av_1 ev_str av_nil) rfl (by decide)) rfl
theorem c_lrec (Ds : Defs K mg) (T : Blt mg) (G : Glb K mg) : Cal P w K mg base 3 "_law_record" pLawRecord (spP K SRec) := by
  refine cal_p Ds.dLawRecord scLawRecord (fun ds r ⟨_, e, _⟩ => by rw [e]; rfl) (fun f cdv A outer s H E hr ds r hS hres => ?_)
  obtain ⟨d, rfl, hd, rfl⟩ := hS
  have h1 := hd.w.1
  have h2 := wnum_len d.n
  refine v_ret (ev_c (ds := [dI (body d)]) (c_sl Ds T) hr (av_1 (EV.fz (EV.cast (r' := .own ((body d).map D.int)) (ev_cat (ds := .int d.k :: (lword d.w).map D.int) (ds' := (wnum d.n).map D.int) (ev_cat (ds := [.int d.k]) (ds' := (lword d.w).map D.int)
      (ev_l1 (ev_listIndexS (ys := kinds) (ev_c0 (c_kinds Ds T) (hr.mono (by decide)) ⟨rfl, rfl⟩) (ev_at (ev_v 0) ev_int rfl (at_t 0)) rfl rfl (kd_at hd.k) (kd_no hd.k)))
      (ev_c (c_lww Ds T G) (hr.mono (by decide)) (av_1 (ev_at (ev_v 0) ev_int rfl (at_t 1)) av_nil) ⟨d.w, rfl, hd.w, rfl⟩) rfl rfl (by simp [lword]; omega))
      (ev_c (c_lnum Ds T) (hr.mono (by decide)) (av_1 (ev_at (ev_v 0) ev_int rfl (at_t 2)) av_nil) ⟨d.n, rfl, hd.n.1, hd.n.2, rfl⟩) rfl rfl (by simp [lword]; omega)) (by simp [body]))) av_nil) ⟨body d, rfl, by have := body_len d hd; omega, rfl⟩) ?_
  rfl
theorem c_rec (Ds : Defs K mg) (T : Blt mg) (G : Glb K mg) : Cal P w K mg base 2 "record" pRecord (spP K SRec) := by
  refine cal_p Ds.dRecord scRecord (fun ds r ⟨_, e, _⟩ => by rw [e]; rfl) (fun f cdv A outer s H E hr ds r hS hres => ?_)
  obtain ⟨d, rfl, hd, rfl⟩ := hS
  have nd := scRecord.nd
  have h1 := hd.w.1
  have h2 := wnum_len d.n
  have hb := body_len d hd
  refine v_set 1 nd (EV.cast (r' := .own ((body d).map D.int)) (ev_cat (ds := .int d.k :: (lword d.w).map D.int) (ds' := (wnum d.n).map D.int) (ev_cat (ds := [.int d.k]) (ds' := (lword d.w).map D.int)
      (ev_l1 (ev_gtupIndex G.gKINDS (ev_at (ev_v 0) ev_int rfl (at_t 0)) (kd_at hd.k) (kd_no hd.k)))
      (ev_c (c_ww Ds T G) (hr.mono (by decide)) (av_1 (ev_at (ev_v 0) ev_int rfl (at_t 1)) av_nil) ⟨d.w, rfl, hd.w, rfl⟩) rfl rfl (by simp [lword]; omega))
      (ev_c (c_wn Ds T) (hr.mono (by decide)) (av_1 (ev_at (ev_v 0) ev_int rfl (at_t 2)) av_nil) ⟨d.n, rfl, hd.n.1, hd.n.2, rfl⟩) rfl rfl (by simp [lword]; omega)) (by simp [body])) ?_
  refine sv_fz (j := 1) (ds := (body d).map D.int) rfl ?_
  refine v_ret (ev_cat (ds := .int (body d).length :: (body d).map D.int) (ds' := [.int (chk (body d))]) (ev_cat (ds := [.int (body d).length]) (ds' := (body d).map D.int) (ev_l1 (ev_len (ev_v 1) rfl len_I T.len)) (ev_v 1) rfl rfl (by simp; omega)) (ev_l1 (ev_c (c_ck Ds T) hr (av_1 (ev_v 1) av_nil) ⟨body d, rfl, by omega, rfl⟩)) rfl rfl (by simp; omega)) ?_
  show R.own _ = R.own _
  simp [rec, sealed]
theorem c_app (Ds : Defs K mg) (T : Blt mg) (G : Glb K mg) : Cal P w K mg base 3 "appended" pAppended (spP K SApp) := by
  refine cal_p Ds.dAppended scAppended (fun ds r ⟨_, _, _, e, _⟩ => by rw [e]; rfl) (fun f cdv A outer s H E hr ds r hS hres => ?_)
  obtain ⟨os, a, d, rfl, hl, hd, rfl⟩ := hS
  have hb := body_len d hd
  refine v_ret (ev_cat (ds := cutD (os.map D.int) none (some (a : Int))) (ds' := (rec d).map D.int) (ev_slice (ds := os.map D.int) (ev_v 0) ov_none (ov_some (ev_v 1)) rfl) (ev_c (c_rec Ds T G) hr (av_1 (ev_v 2) av_nil) ⟨d, rfl, hd, rfl⟩) rfl rfl ?_) ?_
  · rw [cutD_to (by omega)]
    simp [rec, sealed]; omega
  · show R.own _ = R.own _
    rw [cutD_to (by omega)]
    simp
end
end K90

set_option maxRecDepth 100000
set_option maxHeartbeats 4000000
namespace K90
open PySem L2 DL
theorem rword_ok {os : List Int} {a : Nat} {ls : List Int} {p : Int} (ho : Oct os) (h : rword os a = some (ls, p)) : Let ls ∧ 0 ≤ p ∧ p ≤ os.length := by
  unfold rword at h
  split at h
  · cases h
  · rename_i hn
    dsimp only at h
    split at h
    · rename_i hall
      cases h
      have hlt : a < os.length := by omega
      obtain ⟨o1, o2⟩ := ho.getD hlt
      refine ⟨⟨?_, fun o ho => ?_⟩, by omega, by omega⟩
      · rw [List.length_take]; omega
      · simpa using List.all_eq_true.mp hall o ho
    · cases h
theorem rrTail_small {bd : List Int} {n a : Nat} (ho : Oct bd) (hl : bd.length = n) (h : n < 3) : rrTail bd n a = none := by
  unfold rrTail
  cases e : rword bd 1 with
  | none => rfl
  | some x =>
    obtain ⟨w, p⟩ := x
    unfold rword at e
    split at e
    · cases e
    · rename_i hn2
      dsimp only at e
      split at e
      · cases e
        obtain ⟨c1, c2⟩ := ho.getD (k := 1) (by omega)
        show (rnum bd (((1 : Nat) : Int) + 1 + bd.getD 1 0).toNat).bind _ = none
        unfold rnum
        rw [List.drop_eq_nil_of_le (by omega)]; rfl
      · cases e
theorem rrec_small {os : List Int} {a : Nat} (ho : Oct os) (ha : a < os.length) (h : os.getD a 0 < 3) : rrec os a = none := by
  unfold rrec
  split
  · rfl
  · rename_i hn
    obtain ⟨o1, o2⟩ := ho.getD ha
    dsimp only
    split
    · rfl
    · exact rrTail_small ((ho.drop _).take _) (by rw [List.length_take, List.length_drop]; omega) (by omega)
section
variable {P : Program} {w : World} {K : PySem.W.Frag} {mg : Str → Option Value} {base : Heap}
theorem c_rr (Ds : Defs K mg) (T : Blt mg) (G : Glb K mg) : Cal P w K mg base 2 "read_record" pReadRecord (spP K SRr) := by
  refine cal_p Ds.dReadRecord scReadRecord (fun ds r ⟨_, _, e, _⟩ => by rw [e]; rfl) (fun f cdv A outer s H E hr ds r hS hres => ?_)
  obtain ⟨os, a, rfl, ho, hl, ha, rfl⟩ := hS
  have nd := scReadRecord.nd
  by_cases hlt : a < os.length
  · obtain ⟨o1, o2⟩ := ho.getD hlt
    have eat := at_oct (os := os) rfl hlt
    refine v_if (TV.cast (q := decide (a ≥ os.length ∨ (a : Int) + os.getD a 0 + 2 > os.length)) (WV.tv (WV.same (wv_or (tv_ge (ev_v 1) (ev_len (ev_v 0) rfl len_I T.len)) (fun _ => wv_or1 (tv_gt (ev_add (ev_add (ev_v 1) (ev_at (ev_v 0) (ev_v 1) rfl eat)) ev_int) (ev_len (ev_v 0) rfl len_I T.len)))))) (by rw [← Bool.decide_or]; exact decide_eq_decide.mpr (by omega))) (fun h => ?_) (fun h => sv_nil ?_)
    · have h := of_decide_eq_true h
      refine v_ret ev_non ?_
      show R.imm _ = R.imm _
      unfold rrec; rw [if_pos h]; rfl
    · have h := of_decide_eq_false h
      refine v_set 2 nd (ev_at (ev_v 0) (ev_v 1) rfl eat) ?_
      have ec : cutD (os.map D.int) (some ((a : Int) + 1)) (some ((a : Int) + 1 + os.getD a 0)) = ((os.drop (a + 1)).take (os.getD a 0).toNat).map D.int := by
        rw [cutD_nn (by omega) (by omega), List.map_take, List.map_drop, show ((a : Int) + 1).toNat = a + 1 by omega, show ((a : Int) + 1 + os.getD a 0).toNat - (a + 1) = (os.getD a 0).toNat by omega]
      have hbl : ((os.drop (a + 1)).take (os.getD a 0).toNat).length = (os.getD a 0).toNat := by rw [List.length_take, List.length_drop]; omega
      have hbo : Oct ((os.drop (a + 1)).take (os.getD a 0).toNat) := (ho.drop _).take _
      generalize hbd : (os.drop (a + 1)).take (os.getD a 0).toNat = bd at ec hbl hbo
      refine v_set 3 nd (ev_slice (ds := os.map D.int) (ev_v 0) (ov_some (ev_add (ev_v 1) ev_int)) (ov_some (ev_add (ev_add (ev_v 1) ev_int) (ev_v 2))) rfl) ?_
      rw [ec]
      refine sv_fz (j := 3) (ds := bd.map D.int) rfl ?_
      have eck := at_oct (os := os) (i := (a : Int) + 1 + os.getD a 0) (k := a + 1 + (os.getD a 0).toNat) (by omega) (by omega)
      refine v_if (TV.cast (q := decide ((os.getD a 0).toNat = 0 ∨ os.getD (a + 1 + (os.getD a 0).toNat) 0 ≠ chk bd ∨ bd.getD 0 0 ≥ 7)) (WV.tv (WV.same (wv_or (q := decide (os.getD (a + 1 + (os.getD a 0).toNat) 0 ≠ chk bd ∨ bd.getD 0 0 ≥ 7)) (tv_eq (ev_v 2) ev_int) (fun hz => ?_)))) (by rw [← Bool.decide_or]; exact decide_eq_decide.mpr (by omega))) (fun hq => ?_) (fun hq => sv_nil ?_)
      · have hz := of_decide_eq_false hz
        have hb0 := at_oct (os := bd) (i := 0) (k := 0) rfl (by omega)
        refine WV.cast (WV.same (wv_or (tv_ne (ev_at (ev_v 0) (ev_add (ev_add (ev_v 1) ev_int) (ev_v 2)) rfl eck) (ev_c (c_ck Ds T) hr (av_1 (ev_v 3) av_nil) ⟨bd, rfl, by omega, rfl⟩)) (fun _ => wv_or1 (tv_ge (ev_at (ev_v 3) ev_int rfl hb0) (ev_len (ev_gtup G.gKINDS) rfl rfl T.len))))) ?_
        rw [← decide_not, ← Bool.decide_or]
        exact decide_eq_decide.mpr (by rfl)
      · have hq := of_decide_eq_true hq
        refine v_ret ev_non ?_
        show R.imm _ = R.imm _
        unfold rrec; rw [if_neg h]; simp only [hbd]; rw [if_pos hq]; rfl
      · have hq := of_decide_eq_false hq
        have er : rrec os a = rrTail bd (os.getD a 0).toNat a := by
          unfold rrec; rw [if_neg h]; simp only [hbd]; rw [if_neg hq]
        unfold rrTail at er
        refine v_set 4 nd (ev_c (c_rw Ds T G) hr (av_1 (ev_v 3) (av_1 ev_int av_nil)) ⟨bd, 1, rfl, hbo, by omega, by omega, rfl⟩) ?_
        have hb0 := at_oct (os := bd) (i := 0) (k := 0) rfl (by omega)
        obtain ⟨c1, c2⟩ := hbo.getD (k := 0) (by omega)
        cases e : rword bd 1 with
        | none =>
          rw [e] at er
          refine v_if (tv_isN (ev_v 4) ev_non rfl) (fun _ => v_ret ev_non ?_) (fun h => by cases h)
          show R.imm _ = R.imm _
          rw [er]; rfl
        | some x =>
          obtain ⟨wl, p⟩ := x
          rw [e] at er
          simp only [Option.bind_some] at er
          obtain ⟨hw, p0, p1⟩ := rword_ok hbo e
          refine v_if (tv_isN (ev_v 4) ev_non rfl) (fun h => by cases h) (fun _ => sv_nil ?_)
          have ep : ((p.toNat : Nat) : Int) = p := by omega
          refine v_set 5 nd (ev_c (r := .imm (rnD (rnum bd p.toNat))) (c_rn Ds T) (hr.mono (by decide)) (av_1 (ev_v 3) (av_1 (ev_at (ev_v 4) ev_int rfl (at_t 1)) av_nil)) ⟨bd, p.toNat, by rw [ep], hbo, by omega, by omega, rfl⟩) ?_
          cases e2 : rnum bd p.toNat with
          | none =>
            rw [e2] at er
            refine v_if (WV.tv (WV.same (wv_or (p := true) (q := false) (TV.cast (tv_isN (d := rnD none) (ev_v 5) ev_non rfl) rfl) (fun h => by cases h)))) (fun _ => v_ret ev_non ?_) (fun h => by cases h)
            show R.imm _ = R.imm _
            rw [er]; rfl
          | some y =>
            obtain ⟨n, q⟩ := y
            rw [e2] at er
            simp only [Option.bind_some] at er
            refine v_if (TV.cast (q := decide (q ≠ (os.getD a 0).toNat)) (WV.tv (WV.same (wv_or (p := false) (TV.cast (tv_isN (d := rnD (some (n, q))) (ev_v 5) ev_non rfl) rfl) (fun _ => wv_or1 (tv_ne (ev_at (ev_v 5) ev_int rfl (at_t 1)) (ev_v 2)))))) (by rw [← decide_not, Bool.false_or]; exact decide_eq_decide.mpr (by omega))) (fun hz => v_ret ev_non ?_) (fun hz => sv_nil ?_)
            · have hz := of_decide_eq_true hz
              show R.imm _ = R.imm _
              rw [er, if_pos hz]; rfl
            · have hz := of_decide_eq_false hz
              have hk : (bd.getD 0 0).toNat < 7 := by omega
              refine v_ret (ev_t2 (ev_t3 (ev_at (d := .str (kd (bd.getD 0 0).toNat)) (ev_gtup G.gKINDS) (ev_at (ev_v 3) ev_int rfl hb0) rfl (at_t (bd.getD 0 0).toNat (by rw [List.getElem?_map]; exact congrArg (Option.map D.str) (kd_at hk)) (by omega))) (ev_at (ev_v 4) ev_int rfl (at_t 0)) (ev_at (ev_v 5) ev_int rfl (at_t 0))) (ev_add (ev_add (ev_v 1) (ev_v 2)) ev_int)) ?_
              show R.imm _ = R.imm _
              rw [er, if_neg hz]
              show R.imm (.tup [ddD ⟨(bd.getD 0 0).toNat, wl, n⟩, .int ((a : Int) + os.getD a 0 + 2)]) = R.imm (.tup [ddD ⟨(bd.getD 0 0).toNat, wl, n⟩, .int ((a : Int) + (os.getD a 0).toNat + 2)])
              rw [show (((os.getD a 0).toNat : Nat) : Int) = os.getD a 0 by omega]
  · refine v_if (WV.tv (WV.same (wv_or (p := true) (q := false) (TV.cast (tv_ge (ev_v 1) (ev_len (ev_v 0) rfl len_I T.len)) (decide_eq_true (by omega))) (fun h => by cases h)))) (fun _ => ?_) (fun h => by cases h)
    refine v_ret ev_non ?_
    show R.imm _ = R.imm _
    unfold rrec; rw [if_pos (by omega)]; rfl
theorem c_lrr (Ds : Defs K mg) (T : Blt mg) (G : Glb K mg) : Cal P w K mg base 2 "_law_read_record" pLawReadRecord (spP K SRr) := by
  refine cal_p Ds.dLawReadRecord scLawReadRecord (fun ds r ⟨_, _, e, _⟩ => by rw [e]; rfl) (fun f cdv A outer s H E hr ds r hS hres => ?_)
  obtain ⟨os, a, rfl, ho, hl, ha, rfl⟩ := hS
  have nd := scLawReadRecord.nd
  by_cases hlt : a < os.length
  · obtain ⟨o1, o2⟩ := ho.getD hlt
    have eat := at_oct (os := os) rfl hlt
    refine v_if (TV.cast (tv_ge (ev_v 1) (ev_len (ev_v 0) rfl len_I T.len)) (decide_eq_false (by omega))) (fun h => by cases h) (fun _ => sv_nil ?_)
    refine v_set 2 nd (ev_at (ev_v 0) (ev_v 1) rfl eat) ?_
    have ec : cutD (os.map D.int) (some ((a : Int) + 1)) (some ((a : Int) + 1 + os.getD a 0)) = ((os.drop (a + 1)).take (os.getD a 0).toNat).map D.int := by
      rw [cutD_nn (by omega) (by omega), List.map_take, List.map_drop, show ((a : Int) + 1).toNat = a + 1 by omega, show ((a : Int) + 1 + os.getD a 0).toNat - (a + 1) = (os.getD a 0).toNat by omega]
    have hbl0 : a + os.getD a 0 + 2 ≤ os.length → ((os.drop (a + 1)).take (os.getD a 0).toNat).length = (os.getD a 0).toNat := fun _ => by rw [List.length_take, List.length_drop]; omega
    have hbl1 : ((os.drop (a + 1)).take (os.getD a 0).toNat).length ≤ 1000 := by rw [List.length_take, List.length_drop]; omega
    have hbo : Oct ((os.drop (a + 1)).take (os.getD a 0).toNat) := (ho.drop _).take _
    generalize hbd : (os.drop (a + 1)).take (os.getD a 0).toNat = bd at ec hbl0 hbl1 hbo
    refine v_set 3 nd (ev_slice (ds := os.map D.int) (ev_v 0) (ov_some (ev_add (ev_v 1) ev_int)) (ov_some (ev_add (ev_add (ev_v 1) ev_int) (ev_v 2))) rfl) ?_
    rw [ec]
    refine sv_fz (j := 3) (ds := bd.map D.int) rfl ?_
    refine v_if (TV.cast (q := decide (os.getD a 0 < 3 ∨ (a : Int) + os.getD a 0 + 2 > os.length ∨ os.getD (a + 1 + (os.getD a 0).toNat) 0 ≠ chk bd ∨ bd.getD 0 0 ≥ 7)) (WV.tv (WV.same (wv_or (q := decide ((a : Int) + os.getD a 0 + 2 > os.length ∨ os.getD (a + 1 + (os.getD a 0).toNat) 0 ≠ chk bd ∨ bd.getD 0 0 ≥ 7)) (tv_lt (ev_v 2) ev_int) (fun h3 => WV.cast (WV.same (wv_or (q := decide (os.getD (a + 1 + (os.getD a 0).toNat) 0 ≠ chk bd ∨ bd.getD 0 0 ≥ 7)) (tv_gt (ev_add (ev_add (ev_v 1) (ev_v 2)) ev_int) (ev_len (ev_v 0) rfl len_I T.len)) (fun hz => ?_))) ?_)))) (by rw [← Bool.decide_or])) (fun hq => ?_) (fun hq => sv_nil ?_)
    · have hz := of_decide_eq_false hz
      have h3 := of_decide_eq_false h3
      have eck := at_oct (os := os) (i := (a : Int) + os.getD a 0 + 1) (k := a + 1 + (os.getD a 0).toNat) (by omega) (by omega)
      have hb0 := at_oct (os := bd) (i := 0) (k := 0) rfl (by have := hbl0 (by omega); omega)
      refine WV.cast (WV.same (wv_or (tv_ne (ev_at (ev_v 0) (ev_add (ev_add (ev_v 1) (ev_v 2)) ev_int) rfl eck) (ev_c (c_lck Ds T) hr (av_1 (ev_v 3) av_nil) ⟨bd, rfl, by omega, rfl⟩)) (fun _ => wv_or1 (tv_gt (ev_at (ev_v 3) ev_int rfl hb0) ev_int)))) ?_
      rw [← decide_not, ← Bool.decide_or]
      exact decide_eq_decide.mpr (or_congr Iff.rfl (by omega))
    · rw [← Bool.decide_or]
    · have hq := of_decide_eq_true hq
      refine v_ret ev_non ?_
      show R.imm _ = R.imm _
      have : rrec os a = none := by
        rcases hq with h3 | hq
        · exact rrec_small ho hlt h3
        · unfold rrec
          by_cases hc : a ≥ os.length ∨ (a : Int) + os.getD a 0 + 2 > os.length
          · rw [if_pos hc]
          · rw [if_neg hc]
            simp only [hbd]
            rw [if_pos]
            rcases hq with hq | hq
            · exact absurd (.inr hq) hc
            · exact .inr hq
      rw [this]; rfl
    · have hq := of_decide_eq_false hq
      have hq3 : ¬ os.getD a 0 < 3 := fun z => hq (.inl z)
      have hqe : ¬ ((a : Int) + os.getD a 0 + 2 > os.length) := fun z => hq (.inr (.inl z))
      have hqc : ¬ (os.getD (a + 1 + (os.getD a 0).toNat) 0 ≠ chk bd ∨ bd.getD 0 0 ≥ 7) := fun z => hq (.inr (.inr z))
      have hq7 : ¬ bd.getD 0 0 ≥ 7 := fun z => hqc (.inr z)
      have hbl := hbl0 (by omega)
      have er : rrec os a = rrTail bd (os.getD a 0).toNat a := by
        unfold rrec
        rw [if_neg (fun z => by rcases z with z | z <;> omega)]
        simp only [hbd]
        rw [if_neg]
        rintro (z | z)
        · omega
        · exact hqc z
      unfold rrTail at er
      refine v_set 4 nd (ev_c (c_lrw Ds T G) hr (av_1 (ev_v 3) (av_1 ev_int av_nil)) ⟨bd, 1, rfl, hbo, by omega, by omega, rfl⟩) ?_
      have hb0 := at_oct (os := bd) (i := 0) (k := 0) rfl (by omega)
      obtain ⟨c1, c2⟩ := hbo.getD (k := 0) (by omega)
      cases e : rword bd 1 with
      | none =>
        rw [e] at er
        refine v_set 5 nd (ev_if (p := false) (r := .imm .non) (TV.cast (tv_notN (d := rwD none) (ev_v 4) ev_non rfl) rfl) (fun h => by cases h) (fun _ => ev_non)) ?_
        refine v_if (WV.tv (WV.same (wv_or (p := true) (q := false) (TV.cast (tv_isN (d := .non) (ev_v 5) ev_non rfl) rfl) (fun h => by cases h)))) (fun _ => v_ret ev_non ?_) (fun h => by cases h)
        show R.imm _ = R.imm _
        rw [er]; rfl
      | some x =>
        obtain ⟨wl, p⟩ := x
        rw [e] at er
        simp only [Option.bind_some] at er
        obtain ⟨hw, p0, p1⟩ := rword_ok hbo e
        have ep : ((p.toNat : Nat) : Int) = p := by omega
        refine v_set 5 nd (ev_if (p := true) (r := .imm (rnD (rnum bd p.toNat))) (TV.cast (tv_notN (d := rwD (some (wl, p))) (ev_v 4) ev_non rfl) rfl) (fun _ => ev_c (r := .imm (rnD (rnum bd p.toNat))) (c_lrn Ds T) (hr.mono (by decide)) (av_1 (ev_v 3) (av_1 (ev_at (ev_v 4) ev_int rfl (at_t 1)) av_nil)) ⟨bd, p.toNat, by rw [ep], hbo, by omega, by omega, rfl⟩) (fun h => by cases h)) ?_
        cases e2 : rnum bd p.toNat with
        | none =>
          rw [e2] at er
          refine v_if (WV.tv (WV.same (wv_or (p := true) (q := false) (TV.cast (tv_isN (d := rnD none) (ev_v 5) ev_non rfl) rfl) (fun h => by cases h)))) (fun _ => v_ret ev_non ?_) (fun h => by cases h)
          show R.imm _ = R.imm _
          rw [er]; rfl
        | some y =>
          obtain ⟨n, q⟩ := y
          rw [e2] at er
          simp only [Option.bind_some] at er
          refine v_if (TV.cast (q := decide (q ≠ (os.getD a 0).toNat)) (WV.tv (WV.same (wv_or (p := false) (TV.cast (tv_isN (d := rnD (some (n, q))) (ev_v 5) ev_non rfl) rfl) (fun _ => wv_or1 (tv_ne (ev_at (ev_v 5) ev_int rfl (at_t 1)) (ev_v 2)))))) (by rw [← decide_not, Bool.false_or]; exact decide_eq_decide.mpr (by omega))) (fun hz => v_ret ev_non ?_) (fun hz => sv_nil ?_)
          · have hz := of_decide_eq_true hz
            show R.imm _ = R.imm _
            rw [er, if_pos hz]; rfl
          · have hz := of_decide_eq_false hz
            have hk : (bd.getD 0 0).toNat < 7 := by omega
            refine v_ret (ev_t2 (ev_t3 (ev_at (d := .str (kd (bd.getD 0 0).toNat)) (ev_c0 (c_kinds Ds T) (hr.mono (by decide)) ⟨rfl, rfl⟩) (ev_at (ev_v 3) ev_int rfl hb0) rfl (at_l (bd.getD 0 0).toNat (by rw [List.getElem?_map]; exact congrArg (Option.map D.str) (kd_at hk)) (by omega))) (ev_at (ev_v 4) ev_int rfl (at_t 0)) (ev_at (ev_v 5) ev_int rfl (at_t 0))) (ev_add (ev_add (ev_v 1) (ev_v 2)) ev_int)) ?_
            show R.imm _ = R.imm _
            rw [er, if_neg hz]
            show R.imm (.tup [ddD ⟨(bd.getD 0 0).toNat, wl, n⟩, .int ((a : Int) + os.getD a 0 + 2)]) = R.imm (.tup [ddD ⟨(bd.getD 0 0).toNat, wl, n⟩, .int ((a : Int) + (os.getD a 0).toNat + 2)])
            rw [show (((os.getD a 0).toNat : Nat) : Int) = os.getD a 0 by omega]
  · refine v_if (TV.cast (tv_ge (ev_v 1) (ev_len (ev_v 0) rfl len_I T.len)) (decide_eq_true (by omega))) (fun _ => ?_) (fun h => by cases h)
    refine v_ret ev_non ?_
    show R.imm _ = R.imm _
    unfold rrec; rw [if_pos (by omega)]; rfl
end
end K90

set_option maxRecDepth 100000
set_option maxHeartbeats 1000000
namespace K90
open PySem L2 DL
theorem drop_app (junk x : List Int) : (junk ++ x).drop junk.length = x := List.drop_left
theorem getD_app (junk x : List Int) (k : Nat) : (junk ++ x).getD (junk.length + k) 0 = x.getD k 0 := by
  rw [List.getD_eq_getElem?_getD, List.getD_eq_getElem?_getD, List.getElem?_append_right (by omega), Nat.add_sub_cancel_left]
theorem getD_app0 (junk x : List Int) : (junk ++ x).getD junk.length 0 = x.getD 0 0 := getD_app junk x 0
theorem rnum_wnum {n : Int} (h1 : -99999 ≤ n) (h2 : n ≤ 99999) (junk tail : List Int) : rnum (junk ++ wnum n ++ tail) junk.length = some (n, (junk.length : Int) + (wnum n).length) := by
  unfold rnum
  rw [List.append_assoc, drop_app, show wnum n = wnF 6 (zz n) from rfl, rdA_wnF tail 6 (zz n) 0 1 0 (zz_nn n) (zz_lt h1 h2) (fun _ => rfl)]
  show some (unzz (0 + zz n * 1), _) = _
  rw [show 0 + zz n * 1 = zz n by omega, unzz_zz]
  simp
theorem rnum_cut (n : Int) (junk : List Int) : rnum (junk ++ (wnum n).dropLast) junk.length = none := by
  unfold rnum
  rw [drop_app, show wnum n = wnF 6 (zz n) from rfl, rdA_cut 6 _ _ _ _ (zz_nn n)]; rfl
theorem rnum_long (n : Int) (junk tail : List Int) : rnum (junk ++ (wnum n).dropLast ++ [(wnum n).getLast?.getD 0 + 128, 0] ++ tail) junk.length = none := by
  unfold rnum
  rw [List.append_assoc, List.append_assoc, drop_app, ← List.append_assoc, show wnum n = wnF 6 (zz n) from rfl, rdA_long tail 6 _ _ _ _ (zz_nn n)]; rfl
theorem rword_cut {ls : List Int} (h : Let ls) (junk : List Int) : rword (junk ++ (lword ls).dropLast) junk.length = none := by
  unfold rword
  rw [if_pos]
  cases ls with
  | nil => left; simp [lword]
  | cons o r =>
    right; right
    have e : (junk ++ (lword (o :: r)).dropLast).getD junk.length 0 = ((o :: r).length : Int) := by
      rw [getD_app0]
      simp [lword]
    rw [e]
    simp [lword]
theorem rec_oct {d : Dd} (h : d.Ok) : Oct (rec d) := by
  have hb := body_len d h
  have hc := chk_le (body d)
  refine Oct.cons ⟨by omega, by omega⟩ (Oct.app (Oct.cons ⟨by omega, by have := h.k; omega⟩ (Oct.app (Oct.cons ⟨by omega, by have := h.w.1; omega⟩ fun o ho => by have := h.w.2 o ho; omega) (wnF_oct 6 _ (zz_nn _) (zz_lt h.n.1 h.n.2)))) (Oct.cons ⟨hc.1, by omega⟩ Oct.nil))
theorem rec_len (d : Dd) : (rec d).length = (body d).length + 2 := by simp [rec, sealed]
theorem rrec_rec {d : Dd} (h : d.Ok) (junk tail : List Int) : rrec (junk ++ rec d ++ tail) junk.length = some (d, (junk.length : Int) + (rec d).length) := by
  have e0 : (junk ++ rec d ++ tail).getD junk.length 0 = ((body d).length : Int) := by
    rw [List.append_assoc, getD_app0]
    simp [rec, sealed]
  have el : (junk ++ rec d ++ tail).length = junk.length + ((body d).length + 2) + tail.length := by simp [rec_len]; omega
  have ed : ((junk ++ rec d ++ tail).drop (junk.length + 1)).take (body d).length = body d := by
    rw [List.append_assoc, ← List.drop_drop, drop_app]
    simp [rec, sealed]
  have ec : (junk ++ rec d ++ tail).getD (junk.length + 1 + (body d).length) 0 = chk (body d) := by
    rw [List.append_assoc, Nat.add_assoc, getD_app, Nat.add_comm 1]
    simp [rec, sealed]
  have eb : (body d).getD 0 0 = (d.k : Int) := rfl
  unfold rrec
  rw [e0, el, if_neg (by omega)]
  dsimp only
  rw [Int.toNat_natCast, ed, ec, eb, if_neg (by have := h.k; simp [body]; omega)]
  unfold rrTail
  have ew := rword_lword (junk := [(d.k : Int)]) (tail := wnum d.n) h.w
  have ew : rword (body d) 1 = some (d.w, (1 : Int) + 1 + (d.w.length : Nat)) := ew
  rw [ew, Option.bind_some]
  have en := rnum_wnum h.n.1 h.n.2 ((d.k : Int) :: lword d.w) []
  rw [List.append_nil] at en
  have hl : ((d.k : Int) :: lword d.w).length = 2 + d.w.length := by simp [lword]; omega
  rw [hl] at en
  have en : rnum (body d) (2 + d.w.length) = some (d.n, ((2 + d.w.length : Nat) : Int) + (wnum d.n).length) := en
  rw [show ((1 : Int) + 1 + d.w.length).toNat = 2 + d.w.length by omega, en, Option.bind_some]
  have hbl : (body d).length = 2 + d.w.length + (wnum d.n).length := by simp [body, lword]; omega
  dsimp only
  rw [if_neg (by rw [hbl]; omega), eb, rec_len, Int.toNat_natCast]
  simp
  omega
theorem rrec_cut {d : Dd} (h : d.Ok) (junk : List Int) {k : Nat} (hk : k < (rec d).length) : rrec (junk ++ (rec d).take k) junk.length = none := by
  unfold rrec
  rw [if_pos]
  cases k with
  | zero => left; simp
  | succ k =>
    right
    have e0 : (junk ++ (rec d).take (k + 1)).getD junk.length 0 = ((body d).length : Int) := by
      rw [getD_app0]
      simp [rec, sealed]
    rw [e0]
    rw [rec_len] at hk
    simp [rec_len]
    omega
theorem rrec_end (os : List Int) : rrec os os.length = none := by
  unfold rrec
  rw [if_pos (.inl (Nat.le_refl _))]
/-! draws -/
theorem dr_lt {ns : List Int} {c m : Int} (hm : 0 < m) : 0 ≤ dr ns c m ∧ dr ns c m < m := by
  unfold dr
  split
  · exact ⟨Int.fmod_nonneg_of_pos _ hm, Int.fmod_lt_of_pos _ hm⟩
  · exact ⟨Int.fmod_nonneg_of_pos _ hm, Int.fmod_lt_of_pos _ hm⟩
/-- one of xs -/
def pk {α : Type} (ns : List Int) (c : Int) (xs : List α) (d : α) : α := xs.getD ((dr ns c 1000).fmod xs.length).toNat d
theorem pk_mem {α : Type} {ns : List Int} {c : Int} {xs : List α} {d : α} (h : xs ≠ []) : pk ns c xs d ∈ xs := by
  have hl : 0 < xs.length := List.length_pos_iff.mpr h
  have h1 := Int.fmod_nonneg_of_pos (dr ns c 1000) (b := (xs.length : Int)) (by omega)
  have h2 := Int.fmod_lt_of_pos (dr ns c 1000) (b := (xs.length : Int)) (by omega)
  unfold pk
  rw [List.getD_eq_getElem?_getD, List.getElem?_eq_getElem (by omega)]
  exact List.getElem_mem _
theorem s_pick {α : Type} (enc : α → D) {ns : List Int} {c : Int} {xs : List α} (d : α) (hc : 0 ≤ c) (h : xs ≠ []) : SPick (bx ns c) [.lst (xs.map enc)] (.imm (enc (pk ns c xs d))) (bx ns (c + 1)) := by
  have hl : 0 < xs.length := List.length_pos_iff.mpr h
  have h1 := Int.fmod_nonneg_of_pos (dr ns c 1000) (b := (xs.length : Int)) (by omega)
  have h2 := Int.fmod_lt_of_pos (dr ns c 1000) (b := (xs.length : Int)) (by omega)
  refine ⟨ns, c, .lst (xs.map enc), xs.length, _, rfl, rfl, hc, by show some (xs.map enc).length = _; rw [List.length_map], by omega, ?_, rfl, rfl⟩
  show atI (xs.map enc) _ = _
  refine atI_map ?_
  rw [atI_pos (d := d) h1 h2]; rfl
theorem s_pickS {ns : List Int} {c : Int} (hc : 0 ≤ c) : SPick (bx ns c) [.str letters] (.imm (.str (sgn ((dr ns c 1000).fmod 26 + 1)))) (bx ns (c + 1)) := by
  have h1 := Int.fmod_nonneg_of_pos (dr ns c 1000) (b := 26) (by omega)
  have h2 := Int.fmod_lt_of_pos (dr ns c 1000) (b := 26) (by omega)
  refine ⟨ns, c, .str letters, 26, _, rfl, rfl, hc, by decide +kernel, by omega, ?_, rfl, rfl⟩
  have := letters_at (o := (dr ns c 1000).fmod 26 + 1) (by omega) (by omega)
  rw [show (dr ns c 1000).fmod 26 + 1 - 1 = (dr ns c 1000).fmod 26 by omega] at this
  exact this
theorem s_draw {ns : List Int} {c m : Int} (hc : 0 ≤ c) (hm : m ≠ 0) : SDraw (bx ns c) [.int m] (.imm (.int (dr ns c m))) (bx ns (c + 1)) := ⟨ns, c, m, rfl, rfl, hc, hm, rfl, rfl⟩
/-! what _law_same looks through -/
theorem oks_ints : ∀ {os : List Int}, (∀ o ∈ os, o.natAbs < 2 ^ 64) → oks (os.map D.int) = true
  | [], _ => rfl
  | o :: os, h => by
    rw [List.map_cons, oks, D.ok, oks_ints fun x hx => h x (List.mem_cons_of_mem _ hx), Bool.and_true, decide_eq_true_eq]
    have := h o List.mem_cons_self
    by_cases hz : o.natAbs = 0
    · rw [hz]; decide
    · have := (Nat.log2_lt hz).mpr this
      omega
theorem ok_I {os : List Int} (h : Oct os) (hl : os.length ≤ 1000) : (dI os).ok = true := by
  rw [D.ok, oks_ints fun o ho => by have := h o ho; omega, Bool.and_true, decide_eq_true_eq, List.length_map]
  omega
theorem deps_ints : ∀ os : List Int, deps (os.map D.int) = 0
  | [] => rfl
  | o :: os => by rw [List.map_cons, deps, deps_ints os]; rfl
theorem dep_I (os : List Int) : (dI os).dep = 1 := by rw [D.dep, deps_ints]
theorem log_of {v : Int} {n : Nat} (h : v.natAbs < 2 ^ n) (hn : n ≤ 1919) : v.natAbs.log2 < 1920 := by
  by_cases hz : v.natAbs = 0
  · rw [hz]; decide
  · have := (Nat.log2_lt hz).mpr h
    omega
end K90

set_option maxRecDepth 100000
set_option maxHeartbeats 4000000
namespace K90
open PySem L2 DL
def nums16 : List Int := [0, -1, 1, 63, 64, -64, -65, 8191, 8192, -8192, -8193, 99999, -99999, 127, 128, -128]
def dnum (ns : List Int) (c : Int) : Int × Int :=
  if dr ns c 2 = 0 then (pk ns (c + 1) nums16 0, c + 2) else (dr ns (c + 1) 1000 * 100 + dr ns (c + 2) 100 - pk ns (c + 3) [0, 99999] 0, c + 4)
theorem dnum_ok (ns : List Int) {c : Int} (hc : 0 ≤ c) : -99999 ≤ (dnum ns c).1 ∧ (dnum ns c).1 ≤ 99999 ∧ 0 ≤ (dnum ns c).2 := by
  unfold dnum
  split
  · have hm : pk ns (c + 1) nums16 0 ∈ nums16 := pk_mem (by decide)
    have : ∀ x ∈ nums16, -99999 ≤ x ∧ x ≤ 99999 := by decide
    obtain ⟨a, b⟩ := this _ hm
    exact ⟨a, b, by show 0 ≤ c + 2; omega⟩
  · have hm : pk ns (c + 3) [0, 99999] 0 ∈ ([0, 99999] : List Int) := pk_mem (by decide)
    have : ∀ x ∈ ([0, 99999] : List Int), x = 0 ∨ x = 99999 := by decide
    have h1 := dr_lt (ns := ns) (c := c + 1) (m := 1000) (by omega)
    have h2 := dr_lt (ns := ns) (c := c + 2) (m := 100) (by omega)
    have h3 := this _ hm
    refine ⟨?_, ?_, by show 0 ≤ c + 4; omega⟩ <;> dsimp only <;> omega
def SDn (bs ds : List D) (r : R) (bs' : List D) : Prop := ∃ ns c, bs = bx ns c ∧ ds = [] ∧ 0 ≤ c ∧ r = .imm (.int (dnum ns c).1) ∧ bs' = bx ns (dnum ns c).2
def wlen (ns : List Int) (c : Int) : Int := pk ns c [0, 1, 3, 5, 9] 0
theorem wlen_ok (ns : List Int) (c : Int) : 0 ≤ wlen ns c ∧ wlen ns c ≤ 9 := by
  have hm : pk ns c [0, 1, 3, 5, 9] 0 ∈ ([0, 1, 3, 5, 9] : List Int) := pk_mem (by decide)
  have : ∀ x ∈ ([0, 1, 3, 5, 9] : List Int), 0 ≤ x ∧ x ≤ 9 := by decide
  exact this _ hm
def dlet (ns : List Int) (c : Int) (k : Nat) : List Int := (List.range k).map fun i => (dr ns (c + 1 + (i : Nat)) 1000).fmod 26 + 1
def dword (ns : List Int) (c : Int) : List Int := dlet ns c (wlen ns c).toNat
theorem dword_ok (ns : List Int) (c : Int) : Let (dword ns c) := by
  have := wlen_ok ns c
  refine ⟨by simp [dword, dlet]; omega, fun o ho => ?_⟩
  simp only [dword, dlet, List.mem_map] at ho
  obtain ⟨i, _, rfl⟩ := ho
  have h1 := Int.fmod_nonneg_of_pos (dr ns (c + 1 + (i : Nat)) 1000) (b := 26) (by omega)
  have h2 := Int.fmod_lt_of_pos (dr ns (c + 1 + (i : Nat)) 1000) (b := 26) (by omega)
  omega
def dwc (ns : List Int) (c : Int) : Int := c + 1 + wlen ns c
def SDw (bs ds : List D) (r : R) (bs' : List D) : Prop := ∃ ns c, bs = bx ns c ∧ ds = [] ∧ 0 ≤ c ∧ r = .imm (.str (wordOf (dword ns c))) ∧ bs' = bx ns (dwc ns c)
section
variable {P : Program} {w : World} {K : PySem.W.Frag} {mg : Str → Option Value} {base : Heap}
theorem c_dn (Ds : Defs K mg) (T : Blt mg) : Cal P w K mg base 3 "_law_drawn_number" pLawDrawnNumber (spB K SDn) := by
  refine cal_b Ds.dLawDrawnNumber scLawDrawnNumber (fun bs ds r bs' ⟨_, _, _, e, _⟩ => by rw [e]; rfl) (fun f cdv A outer s H E hr bs ds r bs' hS hres => ?_)
  obtain ⟨ns, c, rfl, rfl, hc, rfl, rfl⟩ := hS
  refine v_if (tv_eq (ev_cb (c_draw Ds T) (hr.mono (by decide)) (av_1 (ev_l 0) (av_1 ev_int av_nil)) (.inr rfl) (s_draw (m := 2) hc (by decide))) ev_int) (fun h => ?_) (fun h => sv_nil ?_)
  · have h := of_decide_eq_true h
    have e : dnum ns c = (pk ns (c + 1) nums16 0, c + 2) := if_pos h
    rw [e]
    refine v_ret (ev_cb (c_pick Ds T) hr (av_1 (ev_l 0) (av_1 (EV.fz (ev_lst (ds := nums16.map D.int) (av_1 ev_int <| av_1 (ev_neg ev_int) <| av_1 ev_int <| av_1 ev_int <| av_1 ev_int <| av_1 (ev_neg ev_int) <| av_1 (ev_neg ev_int) <| av_1 ev_int <| av_1 ev_int <| av_1 (ev_neg ev_int) <| av_1 (ev_neg ev_int) <| av_1 ev_int <| av_1 (ev_neg ev_int) <| av_1 ev_int <| av_1 ev_int <| av_1 (ev_neg ev_int) av_nil) rfl (by decide))) av_nil)) (.inr rfl) (s_pick (c := c + 1) D.int (0 : Int) (by omega) (by decide))) ⟨rfl, ?_⟩
    show some (R.box (bx ns (c + 1 + 1))) = some (R.box (bx ns (c + 2)))
    rw [show c + 1 + 1 = c + 2 by omega]
  · have h := of_decide_eq_false h
    have e : dnum ns c = (dr ns (c + 1) 1000 * 100 + dr ns (c + 2) 100 - pk ns (c + 3) [0, 99999] 0, c + 4) := if_neg h
    rw [e]
    have e2 : c + 1 + 1 = c + 2 := by omega
    have e3 : c + 2 + 1 = c + 3 := by omega
    have d1 : SDraw (bx ns (c + 1)) [.int 1000] (.imm (.int (dr ns (c + 1) 1000))) (bx ns (c + 2)) := e2 ▸ s_draw (m := 1000) (by omega) (by decide)
    have d2 : SDraw (bx ns (c + 2)) [.int 100] (.imm (.int (dr ns (c + 2) 100))) (bx ns (c + 3)) := e3 ▸ s_draw (m := 100) (by omega) (by decide)
    refine v_ret (ev_sub (ev_add (ev_mul (ev_cb (c_draw Ds T) (hr.mono (by decide)) (av_1 (ev_l 0) (av_1 ev_int av_nil)) (.inr rfl) d1) ev_int (.inr (by decide))) (ev_cb (c_draw Ds T) (hr.mono (by decide)) (av_1 (ev_l 0) (av_1 ev_int av_nil)) (.inr rfl) d2)) (ev_cb (c_pick Ds T) hr (av_1 (ev_l 0) (av_1 (EV.fz (ev_l2 (d := .int 0) (d' := .int 99999) ev_int ev_int)) av_nil)) (.inr rfl) (s_pick (xs := [0, 99999]) (c := c + 3) D.int (0 : Int) (by omega) (by decide)))) ⟨rfl, ?_⟩
    show some (R.box (bx ns (c + 3 + 1))) = some (R.box (bx ns (c + 4)))
    rw [show c + 3 + 1 = c + 4 by omega]
theorem dlet_succ (ns : List Int) (c : Int) (k : Nat) : dlet ns c (k + 1) = dlet ns c k ++ [(dr ns (c + 1 + (k : Nat)) 1000).fmod 26 + 1] := by
  unfold dlet
  rw [List.range_succ, List.map_append]; rfl
theorem c_dw (Ds : Defs K mg) (T : Blt mg) : Cal P w K mg base 3 "_law_drawn_word" pLawDrawnWord (spB K SDw) := by
  refine cal_b Ds.dLawDrawnWord scLawDrawnWord (fun bs ds r bs' ⟨_, _, _, e, _⟩ => by rw [e]; rfl) (fun f cdv A outer s H E hr bs ds r bs' hS hres => ?_)
  obtain ⟨ns, c, rfl, rfl, hc, rfl, rfl⟩ := hS
  have nd := scLawDrawnWord.nd
  have hw := wlen_ok ns c
  have hsum : ∀ xs : List Int, ((xs.map sgn).map (·.length)).sum = xs.length := fun xs => by
    induction xs with
    | nil => rfl
    | cons x xs ih => rw [List.map_cons, List.map_cons, List.sum_cons, ih]; show 1 + xs.length = _; simp; omega
  refine v_ret (ev_join (ys := (dword ns c).map sgn) ev_str (ev_lc (cond := none) (own := [("k", 1)]) (out := (dlet ns c (wlen ns c).toNat).map fun o => D.str (sgn o)) (es' := [.box (bx ns (dwc ns c)), .any]) (fun k e acc => e = [.box (bx ns (c + 1 + (k : Nat))), .any] ∧ acc = (dlet ns c k).map fun o => D.str (sgn o))
    (iv_range1 (j := wlen ns c) (ev_cb (c_pick Ds T) hr (av_1 (ev_l 0) (av_1 (EV.fz (ev_lst (ds := [.int 0, .int 1, .int 3, .int 5, .int 9]) (av_1 ev_int <| av_1 ev_int <| av_1 ev_int <| av_1 ev_int <| av_1 ev_int av_nil) rfl (by decide))) av_nil)) (.inr rfl) (s_pick (xs := [0, 1, 3, 5, 9]) D.int (0 : Int) hc (by decide))) (by omega) (by omega) rfl T.range rfl)
    (notOwn_ok rfl) ⟨by show [R.box (bx ns (c + 1)), R.any] = _; simp, rfl⟩ ⟨?_⟩ ?_ rfl nd (blkOk_by (N := nLawDrawnWord) (sc := defScope sLawDrawnWord) (by decide +kernel)) (by intro _; rfl)) ?_ ?_) ⟨?_, rfl⟩
  · rintro k d e acc hd ⟨rfl, rfl⟩
    obtain ⟨hk, rfl⟩ := rangeD_get hd
    refine ⟨by simp [dlet]; omega, _, [1], fun _ _ _ _ _ => g_n 1 nd, by decide, ?_⟩
    refine ⟨_, .str (sgn ((dr ns (c + 1 + (k : Nat)) 1000).fmod 26 + 1)), fun _ _ _ _ _ => ev_cb (c_pick Ds T) hr (av_1 (ev_l 0) (av_1 ev_str av_nil)) (.inr rfl) (s_pickS (c := c + 1 + (k : Nat)) (by omega)), ?_, ?_⟩
    · show [R.box (bx ns (c + 1 + (k : Nat) + 1)), R.any] = [R.box (bx ns (c + 1 + ((k + 1 : Nat) : Int))), R.any]
      rw [show c + 1 + (k : Nat) + 1 = c + 1 + ((k + 1 : Nat) : Int) by omega]
    · rw [dlet_succ, List.map_append]; rfl
  · rintro e acc ⟨rfl, rfl⟩
    have hl : (rangeD 0 (wlen ns c)).length = (wlen ns c).toNat := by rw [rangeD_len]; simp
    rw [hl]
    refine ⟨?_, rfl⟩
    show [R.box (bx ns (c + 1 + ((wlen ns c).toNat : Nat))), R.any] = [R.box (bx ns (dwc ns c)), R.any]
    unfold dwc
    rw [show (((wlen ns c).toNat : Nat) : Int) = wlen ns c by omega]
  · show some (D.lst ((dlet ns c (wlen ns c).toNat).map fun o => D.str (sgn o))) = some (D.lst (((dword ns c).map sgn).map D.str))
    rw [List.map_map]; rfl
  · rw [hsum]
    have := (dword_ok ns c).1
    show (dword ns c).length + ((dword ns c).map sgn).length * 0 ≤ 1000000
    omega
  · show R.imm (.str (PySem.Txt.join "" ((dword ns c).map sgn))) = R.imm (.str (wordOf (dword ns c)))
    rw [TL.join_eq, join_word]
end
end K90

set_option maxRecDepth 100000
set_option maxHeartbeats 4000000
namespace K90
open PySem L2 DL
theorem ev_catI {X : Cx} {es es1 es2 : List R} {a b : Expr} {ra rb : R} {pos : Pos} (as bs : List Int) (ha : EV X es a es1 ra) (hb : EV X es1 b es2 rb) (hz : as.length + bs.length ≤ 100000) (va : view es2 ra = some (dI as) := by rfl) (vb : view es2 rb = some (dI bs) := by rfl) : EV X es (.BinOp a .Add b pos) es2 (.own ((as ++ bs).map D.int)) :=
  EV.cast (ev_cat ha hb va vb (by simp; omega)) (by rw [List.map_append])
def cPc (ns : List Int) (c : Int) : Int := dwc ns (dnum ns c).2 + 2
def SPc (bs ds : List D) (r : R) (bs' : List D) : Prop := ∃ ns c junk tail, bs = bx ns c ∧ ds = [dI junk, dI tail] ∧ 0 ≤ c ∧ Oct junk ∧ Oct tail ∧ junk.length ≤ 3 ∧ tail.length ≤ 3 ∧ r = .imm (.bl true) ∧ bs' = bx ns (cPc ns c)
def bents (ls : List Int) : List (List Int) := [10 :: List.replicate 10 1, [1, 0], [1, 27], [2, 26, 255], [1, 26], lword ls ++ [0]]
theorem lword_oct {ls : List Int} (h : Let ls) : Oct (lword ls) := Oct.cons ⟨by omega, by have := h.1; omega⟩ fun o ho => by have := h.2 o ho; omega
theorem bents_ok {ls : List Int} (h : Let ls) : ∀ x ∈ bents ls, Oct x ∧ x.length ≤ 11 := by
  intro x hx
  have hl := lword_oct h
  have h0 : ∀ x ∈ ([10 :: List.replicate 10 1, [1, 0], [1, 27], [2, 26, 255], [1, 26]] : List (List Int)), (∀ o ∈ x, 0 ≤ o ∧ o ≤ 255) ∧ x.length ≤ 11 := by decide
  have hx : x ∈ ([10 :: List.replicate 10 1, [1, 0], [1, 27], [2, 26, 255], [1, 26]] ++ [lword ls ++ [0]] : List (List Int)) := hx
  rcases List.mem_append.mp hx with hx | hx
  · exact h0 x hx
  · rw [List.mem_singleton] at hx
    subst hx
    exact ⟨hl.app (Oct.cons ⟨by omega, by omega⟩ Oct.nil), by have := h.1; simp [lword]; omega⟩
/-! results that _law_same looks through -/
theorem ok_t2 {a b : D} (ha : a.ok = true) (hb : b.ok = true) : (D.tup [a, b]).ok = true := by
  rw [D.ok, oks, oks, oks, ha, hb]; rfl
theorem ok_int {i : Int} (h : i.natAbs < 2 ^ 1900) : (D.int i).ok = true := by
  rw [D.ok, decide_eq_true_eq]; exact log_of h (by decide)
theorem natAbs_small {i : Int} (h1 : -(2 ^ 1900) < i) (h2 : i < 2 ^ 1900) : i.natAbs < 2 ^ 1900 := by
  have e : ((2 ^ 1900 : Nat) : Int) = (2 : Int) ^ 1900 := by simp
  omega
theorem unzz_small {v : Int} (h0 : 0 ≤ v) : -v - 1 ≤ unzz v ∧ unzz v ≤ v := by
  unfold unzz
  split <;> rw [Int.fdiv_eq_ediv_of_nonneg _ (by omega)] <;> omega
theorem rn_ok {os : List Int} (ho : Oct os) (hl : os.length ≤ 200) (a : Nat) (ha : a ≤ 1000) : (rnD (rnum os a)).ok = true := by
  cases e : rnum os a with
  | none => rfl
  | some x =>
    obtain ⟨v, p⟩ := x
    unfold rnum at e
    cases e2 : rdA (os.drop a) 0 1 0 with
    | none => rw [e2] at e; cases e
    | some y =>
      obtain ⟨t, n⟩ := y
      rw [e2] at e
      cases e
      obtain ⟨b1, b2, b3⟩ := rdA_size _ _ _ _ (ho.drop a) (by omega) (by omega) e2
      have hp : (128 : Int) ^ (os.drop a).length ≤ 128 ^ 200 := by
        have : (os.drop a).length ≤ 200 := by rw [List.length_drop]; omega
        have h2 : ((128 : Nat) ^ (os.drop a).length : Nat) ≤ 128 ^ 200 := Nat.pow_le_pow_right (by omega) this
        have h3 : (((128 : Nat) ^ (os.drop a).length : Nat) : Int) ≤ ((128 ^ 200 : Nat) : Int) := Int.ofNat_le.mpr h2
        simpa using h3
      have hq : (128 : Int) ^ 200 < 2 ^ 1899 := by decide +kernel
      have hq2 : (2 : Int) ^ 1899 + 1 < 2 ^ 1900 := by decide +kernel
      have := unzz_small b1
      refine ok_t2 (ok_int (natAbs_small ?_ ?_)) (ok_int ?_)
      · dsimp only; omega
      · dsimp only; omega
      · have : n ≤ 200 := by rw [List.length_drop] at b3; omega
        have h3 : ((a : Int) + (n : Nat)).natAbs < 2 ^ 11 := by
          have : (2 : Nat) ^ 11 = 2048 := rfl
          omega
        exact Nat.lt_of_lt_of_le h3 (Nat.pow_le_pow_right (by omega) (by omega))
theorem reprWord_ok {ls : List Int} (h : Let ls) : (D.str (wordOf ls)).ok = true := by
  rw [D.ok, decide_eq_true_eq]
  have := StrLaws.reprText_len (wordOf ls) (fun c hc => by
    unfold wordOf at hc
    simp at hc
    obtain ⟨o, ho, rfl⟩ := hc
    have := h.2 o ho
    have : (16 : Nat) ^ 8 = 4294967296 := by decide
    omega)
  rw [wordOf_len] at this
  have := h.1
  omega
theorem rw_ok {os : List Int} (ho : Oct os) (hl : os.length ≤ 200) (a : Nat) : (rwD (rword os a)).ok = true := by
  cases e : rword os a with
  | none => rfl
  | some x =>
    obtain ⟨ls, p⟩ := x
    obtain ⟨h1, h2, h3⟩ := rword_ok ho e
    refine ok_t2 (reprWord_ok h1) (ok_int ?_)
    have h4 : p.natAbs < 2 ^ 8 := by
      have : (2 : Nat) ^ 8 = 256 := rfl
      omega
    exact Nat.lt_of_lt_of_le h4 (Nat.pow_le_pow_right (by omega) (by omega))
theorem dep_rn (x : Option (Int × Int)) : (rnD x).dep ≤ 3 := by
  cases x with
  | none => simp [rnD, D.dep]
  | some y => simp [rnD, D.dep, deps]
theorem dep_rw (x : Option (List Int × Int)) : (rwD x).dep ≤ 3 := by
  cases x with
  | none => simp [rwD, D.dep]
  | some y => simp [rwD, D.dep, deps]
theorem wnF_last : ∀ (k : Nat) (m : Int), 0 ≤ m → m < 128 ^ (k + 1) → 0 ≤ (wnF k m).getLast?.getD 0 ∧ (wnF k m).getLast?.getD 0 ≤ 127
  | 0, m, h0, h1 => by
    have h1 : m < 128 := by simpa using h1
    show 0 ≤ m ∧ m ≤ 127
    omega
  | k + 1, m, h0, h1 => by
    unfold wnF
    split
    · have hne : wnF k (m.fdiv 128) ≠ [] := by
        intro z
        have := (wnF_len k (m.fdiv 128)).2
        rw [z] at this; simp at this
      rw [List.getLast?_cons_of_ne_nil hne]
      have e : m.fdiv 128 = m / 128 := Int.fdiv_eq_ediv_of_nonneg _ (by omega)
      rw [e]
      refine wnF_last k _ (by omega) ?_
      have : (128 : Int) ^ (k + 2) = 128 ^ (k + 1) * 128 := Int.pow_succ _ _
      rw [this] at h1
      exact Int.ediv_lt_of_lt_mul (by omega) h1
    · show 0 ≤ m ∧ m ≤ 127
      omega
theorem at_last {os : List Int} (h : os ≠ []) : (dI os).at (-1) = some (.int (os.getLast?.getD 0)) := by
  obtain ⟨r, o, rfl⟩ : ∃ r o, os = r ++ [o] := by
    rcases List.eq_nil_or_concat os with e | ⟨r, o, e⟩
    · exact absurd e h
    · exact ⟨r, o, by rw [e, List.concat_eq_append]⟩
  show atI ((r ++ [o]).map D.int) (-1) = _
  rw [List.map_append, List.map_cons, List.map_nil, atI_last]
  simp
theorem ev_lI {X : Cx} {es es1 : List R} {a : Expr} {pos : Pos} {i : Int} (h : EV X es a es1 (.imm (.int i))) (hs : starEach [a] X.env = (false, eval a X.env) :: starEach [] X.env := by rfl) : EV X es (.List [a] pos) es1 (.own ([i].map D.int)) := ev_l1 h hs
theorem ev_lI2 {X : Cx} {es es1 es2 : List R} {a b : Expr} {pos : Pos} {i j : Int} (h : EV X es a es1 (.imm (.int i))) (h2 : EV X es1 b es2 (.imm (.int j))) (hs : starEach [a, b] X.env = (false, eval a X.env) :: starEach [b] X.env := by rfl) (hs2 : starEach [b] X.env = (false, eval b X.env) :: starEach [] X.env := by rfl) : EV X es (.List [a, b] pos) es2 (.own ([i, j].map D.int)) := ev_l2 h h2 hs hs2
section
variable {P : Program} {w : World} {K : PySem.W.Frag} {mg : Str → Option Value} {base : Heap}
theorem ev_same {X : Cx} {es es1 es2 : List R} {a b : Expr} {pos p : Pos} {d : D} (C : Cal X.prog X.w X.K X.mg X.base 4 "_law_same" ["told", "due"] (spP X.K (SSame 3))) (hr : Room 4 X.A) (ha : EV X es a es1 (.imm d)) (hb : EV X es1 b es2 (.imm d)) (ho : d.ok = true) (hd : d.dep ≤ 3) (hg : Gl X "_law_same" := by rfl)
    (he : starEach [a, b] X.env = (false, eval a X.env) :: starEach [b] X.env := by rfl) (he2 : starEach [b] X.env = (false, eval b X.env) :: starEach [] X.env := by rfl) : EV X es (.Call (.Name "_law_same" p) [a, b] [] pos) es2 (.imm (.bl true)) :=
  ev_c C hr (av_1 ha (av_1 hb av_nil he2) he) ⟨d, rfl, ho, hd, rfl⟩ (hg := hg) (he := he) (hpl := by rw [he2]; rfl)
theorem c_pc (Ds : Defs K mg) (T : Blt mg) (G : Glb K mg) : Cal P w K mg base 6 "_law_pieces_read" pLawPiecesRead (spB K SPc) := by
  refine cal_b Ds.dLawPiecesRead scLawPiecesRead (fun bs ds r bs' ⟨_, _, _, _, _, e, _⟩ => by rw [e]; rfl) (fun f cdv A outer s H E hr bs ds r bs' hS hres => ?_)
  obtain ⟨ns, c, junk, tail, rfl, rfl, hc, hj, ht, hjl, htl, rfl, rfl⟩ := hS
  have nd := scLawPiecesRead.nd
  have hr4 : Room 4 _ := hr.mono (by decide)
  have hr3 : Room 3 _ := hr.mono (by decide)
  have hr2 : Room 2 _ := hr.mono (by decide)
  have hr1 : Room 1 _ := hr.mono (by decide)
  have cs := c_same (P := P) (w := w) (base := base) Ds T 3
  obtain ⟨n1, n2, n3⟩ := dnum_ok ns hc
  -- number, word
  refine v_set 3 nd (ev_cb (c_dn Ds T) hr3 (av_1 (ev_l 0) av_nil) (.inr rfl) ⟨ns, c, rfl, rfl, hc, rfl, rfl⟩) ?_
  refine v_set 4 nd (ev_cb (c_dw Ds T) hr3 (av_1 (ev_l 0) av_nil) (.inr rfl) ⟨ns, (dnum ns c).2, rfl, rfl, n3, rfl, rfl⟩) ?_
  have hcP : cPc ns c = dwc ns (dnum ns c).2 + 2 := rfl
  rw [hcP]
  have hc2 : 0 ≤ dwc ns (dnum ns c).2 := by have := wlen_ok ns (dnum ns c).2; unfold dwc; omega
  have hwd := dword_ok ns (dnum ns c).2
  generalize (dnum ns c).1 = n at n1 n2 ⊢
  generalize dwc ns (dnum ns c).2 = c2 at hc2 ⊢
  generalize dword ns (dnum ns c).2 = wd at hwd ⊢
  have hno : Oct (wnum n) := wnF_oct 6 _ (zz_nn _) (zz_lt n1 n2)
  have hnl := wnum_len n
  have hlo := lword_oct hwd
  have hll : (lword wd).length ≤ 10 := by have := hwd.1; simp [lword]; omega
  refine v_set 5 nd (ev_c (c_lnum Ds T) hr1 (av_1 (ev_v 3) av_nil) ⟨n, rfl, n1, n2, rfl⟩) (sv_fz (j := 5) rfl ?_)
  refine v_set 6 nd (ev_c (c_lww Ds T G) hr1 (av_1 (ev_v 4) av_nil) ⟨wd, rfl, hwd, rfl⟩) (sv_fz (j := 6) rfl ?_)
  refine v_if (TV.cast (q := false) (WV.tv (WV.same (wv_or (tv_not (tv_v (ev_same cs hr4 (EV.fz (ev_c (c_wn Ds T) hr1 (av_1 (ev_v 3) av_nil) ⟨n, rfl, n1, n2, rfl⟩)) (ev_v 5) (ok_I hno (by omega)) (by rw [dep_I]; omega)))) (fun _ => wv_or1 (tv_not (tv_v (ev_same cs hr4 (EV.fz (ev_c (c_ww Ds T G) hr1 (av_1 (ev_v 4) av_nil) ⟨wd, rfl, hwd, rfl⟩)) (ev_v 6) (ok_I hlo (by omega)) (by rw [dep_I]; omega)))))))) rfl) (fun h => by cases h) (fun _ => sv_nil ?_)
  -- read_number(junk + octets + tail, len(junk))
  have e1 := rnum_wnum n1 n2 junk tail
  refine v_if (TV.cast (q := false) (tv_not (tv_v (ev_same (d := rnD (rnum (junk ++ wnum n ++ tail) junk.length)) cs hr4 (ev_c (c_rn Ds T) hr1 (av_1 (EV.fz (ev_catI (junk ++ wnum n) tail (ev_catI junk (wnum n) (ev_v 1) (ev_v 5) (by omega)) (ev_v 2) (by simp; omega))) (av_1 (ev_len (ev_v 1) rfl len_I T.len) av_nil)) ⟨_, junk.length, rfl, (hj.app hno).app ht, by simp; omega, by omega, rfl⟩) (EV.cast (ev_t2 (ev_v 3) (ev_add (ev_len (ev_v 1) rfl len_I T.len) (ev_len (ev_v 5) rfl len_I T.len))) (by rw [e1]; rfl)) (rn_ok ((hj.app hno).app ht) (by simp; omega) _ (by omega)) (dep_rn _)))) rfl) (fun h => by cases h) (fun _ => sv_nil ?_)
  have e2 := rword_lword (junk := junk) (tail := tail) hwd
  refine v_if (TV.cast (q := false) (tv_not (tv_v (ev_same (d := rwD (rword (junk ++ lword wd ++ tail) junk.length)) cs hr4 (ev_c (c_rw Ds T G) hr1 (av_1 (EV.fz (ev_catI (junk ++ lword wd) tail (ev_catI junk (lword wd) (ev_v 1) (ev_v 6) (by omega)) (ev_v 2) (by simp; omega))) (av_1 (ev_len (ev_v 1) rfl len_I T.len) av_nil)) ⟨_, junk.length, rfl, (hj.app hlo).app ht, by simp; omega, by omega, rfl⟩) (EV.cast (ev_t2 (ev_v 4) (ev_add (ev_len (ev_v 1) rfl len_I T.len) (ev_len (ev_v 6) rfl len_I T.len))) (by rw [e2]; show R.imm (.tup [_, .int ((junk.length : Int) + ((lword wd).length : Nat))]) = R.imm (.tup [_, .int ((junk.length : Int) + 1 + (wd.length : Nat))]); rw [show (lword wd).length = wd.length + 1 from rfl, show (junk.length : Int) + ((wd.length + 1 : Nat) : Int) = (junk.length : Int) + 1 + (wd.length : Nat) by omega])) (rw_ok ((hj.app hlo).app ht) (by simp; omega) _) (dep_rw _)))) rfl) (fun h => by cases h) (fun _ => sv_nil ?_)
  -- without their last octets
  have cut1 : ∀ os : List Int, cutD (os.map D.int) none (some (-1)) = os.dropLast.map D.int := fun os => by rw [cutD_init, List.map_dropLast]
  have e3 := rnum_cut n junk
  have e4 := rword_cut hwd junk
  have sl : ∀ {X : Cx} {es : List R} {a : Expr} {p p2 p3 p4 : Pos} {os : List Int} {ra : R} {j : Nat}, EV X es a es ra → view es ra = some (dI os) → EV X es (.Subscript a (.Slice none (some (.UnaryOp .USub (.Constant (.int 1) j p) p2)) none p3) p4) es (.own (os.dropLast.map D.int)) := fun h v => EV.cast (ev_slice h ov_none (ov_some (ev_neg ev_int)) v) (by rw [cut1])
  have hdo : Oct (wnum n).dropLast := fun o ho => hno o (List.dropLast_subset _ ho)
  have hdl : Oct (lword wd).dropLast := fun o ho => hlo o (List.dropLast_subset _ ho)
  refine v_if (TV.cast (q := false) (WV.tv (WV.same (wv_or (TV.cast (q := false) (tv_notN (d := rnD (rnum (junk ++ (wnum n).dropLast) junk.length)) (ev_c (c_rn Ds T) hr1 (av_1 (EV.fz (ev_catI junk (wnum n).dropLast (ev_v 1) (sl (ev_v 5) rfl) (by simp; omega))) (av_1 (ev_len (ev_v 1) rfl len_I T.len) av_nil)) ⟨_, junk.length, rfl, hj.app hdo, by simp; omega, by omega, rfl⟩) ev_non rfl) (by rw [e3]; rfl)) (fun _ => wv_or1 (TV.cast (q := false) (tv_notN (d := rwD (rword (junk ++ (lword wd).dropLast) junk.length)) (ev_c (c_rw Ds T G) hr1 (av_1 (EV.fz (ev_catI junk (lword wd).dropLast (ev_v 1) (sl (ev_v 6) rfl) (by simp; omega))) (av_1 (ev_len (ev_v 1) rfl len_I T.len) av_nil)) ⟨_, junk.length, rfl, hj.app hdl, by simp; omega, by omega, rfl⟩) ev_non rfl) (by rw [e4]; rfl)))))) rfl) (fun h => by cases h) (fun _ => sv_nil ?_)
  -- one octet too long
  have hla := wnF_last 6 _ (zz_nn n) (zz_lt n1 n2)
  have hla : 0 ≤ (wnum n).getLast?.getD 0 ∧ (wnum n).getLast?.getD 0 ≤ 127 := hla
  have hne : wnum n ≠ [] := fun z => by have := (wnF_len 6 (zz n)).2; rw [show wnF 6 (zz n) = wnum n from rfl, z] at this; simp at this
  have e5 := rnum_long n junk tail
  have ho2 : Oct [(wnum n).getLast?.getD 0 + 128, 0] := Oct.cons ⟨by omega, by omega⟩ (Oct.cons ⟨by omega, by omega⟩ Oct.nil)
  refine v_if (TV.cast (q := false) (tv_notN (d := rnD (rnum (junk ++ (wnum n).dropLast ++ [(wnum n).getLast?.getD 0 + 128, 0] ++ tail) junk.length)) (ev_c (c_rn Ds T) hr1 (av_1 (EV.fz (ev_catI (junk ++ (wnum n).dropLast ++ [(wnum n).getLast?.getD 0 + 128, 0]) tail (ev_catI (junk ++ (wnum n).dropLast) [(wnum n).getLast?.getD 0 + 128, 0] (ev_catI junk (wnum n).dropLast (ev_v 1) (sl (ev_v 5) rfl) (by simp; omega)) (ev_lI2 (ev_add (ev_at (ev_v 5) (ev_neg ev_int) rfl (at_last hne)) ev_int) ev_int) (by simp; omega)) (ev_v 2) (by simp; omega))) (av_1 (ev_len (ev_v 1) rfl len_I T.len) av_nil)) ⟨_, junk.length, rfl, ((hj.app hdo).app ho2).app ht, by simp; omega, by omega, rfl⟩) ev_non rfl) (by rw [e5]; rfl)) (fun h => by cases h) (fun _ => sv_nil ?_)
  -- a word, bent
  have hbt := bents_ok hwd
  have hpk : pk ns c2 (bents wd) [] ∈ bents wd := pk_mem (by simp [bents])
  obtain ⟨q1, q2⟩ := hbt _ hpk
  have rep10 : (List.replicate (10 : Int).toNat [D.int 1]).flatten = (List.replicate 10 1).map D.int := rfl
  refine v_set 7 nd (ev_catI (junk ++ pk ns c2 (bents wd) []) tail (ev_catI junk (pk ns c2 (bents wd) []) (ev_v 1) (ev_cb (c_pick Ds T) hr2 (av_1 (ev_l 0) (av_1 (EV.fz (ev_lst (ds := (bents wd).map dI)
      (av_1 (EV.fz (EV.cast (r' := .own ((10 :: List.replicate 10 1).map D.int)) (ev_cat (ds := [.int 10]) (ds' := (List.replicate 10 1).map D.int) (ev_l1 ev_int) (EV.cast (ev_rep (ds := [.int 1]) (ev_l1 ev_int) ev_int rfl (by decide) (by decide)) (by rw [rep10])) rfl rfl (by decide)) rfl)) <|
       av_1 (EV.fz (ev_lI2 ev_int ev_int)) <| av_1 (EV.fz (ev_lI2 ev_int ev_int)) <| av_1 (EV.fz (ev_lst (ds := [.int 2, .int 26, .int 255]) (av_1 ev_int <| av_1 ev_int <| av_1 ev_int av_nil) rfl (by decide))) <| av_1 (EV.fz (ev_lI2 ev_int ev_int)) <| av_1 (EV.fz (ev_catI (lword wd) [0] (ev_v 6) (ev_lI ev_int) (by simp; omega))) av_nil) rfl (by simp [bents]))) av_nil)) (.inr rfl) (s_pick (xs := bents wd) dI ([] : List Int) hc2 (by simp [bents]))) (by omega)) (ev_v 2) (by simp; omega)) (sv_fz (j := 7) rfl ?_)
  generalize pk ns c2 (bents wd) [] = bt at q1 q2 ⊢
  have hbo : Oct (junk ++ bt ++ tail) := (hj.app q1).app ht
  have hbl : (junk ++ bt ++ tail).length ≤ 17 := by simp; omega
  refine v_if (TV.cast (q := false) (tv_not (tv_v (ev_same (d := rwD (rword (junk ++ bt ++ tail) junk.length)) cs hr4 (ev_c (c_rw Ds T G) hr1 (av_1 (ev_v 7) (av_1 (ev_len (ev_v 1) rfl len_I T.len) av_nil)) ⟨junk ++ bt ++ tail, junk.length, rfl, hbo, by omega, by omega, rfl⟩) (ev_c (c_lrw Ds T G) hr1 (av_1 (ev_v 7) (av_1 (ev_len (ev_v 1) rfl len_I T.len) av_nil)) ⟨junk ++ bt ++ tail, junk.length, rfl, hbo, by omega, by omega, rfl⟩) (rw_ok hbo (by omega) _) (dep_rw _)))) rfl) (fun h => by cases h) (fun _ => sv_nil ?_)
  -- any place
  have hd := dr_lt (ns := ns) (c := c2 + 1) (m := (junk.length : Int) + 1) (by omega)
  refine v_set 8 nd (ev_cb (c_draw Ds T) hr1 (av_1 (ev_l 0) (av_1 (ev_add (ev_len (ev_v 1) rfl len_I T.len) ev_int) av_nil)) (.inr rfl) (s_draw (c := c2 + 1) (m := (junk.length : Int) + 1) (by omega) (by omega))) ?_
  generalize dr ns (c2 + 1) ((junk.length : Int) + 1) = at_ at hd ⊢
  obtain ⟨m, rfl⟩ : ∃ m : Nat, at_ = (m : Int) := ⟨at_.toNat, by omega⟩
  have hjt : Oct (junk ++ tail) := hj.app ht
  have hjtl : (junk ++ tail).length ≤ 6 := by simp; omega
  refine v_ret (ev_same (d := rnD (rnum (junk ++ tail) m)) cs hr4 (ev_c (c_rn Ds T) hr1 (av_1 (EV.fz (ev_catI junk tail (ev_v 1) (ev_v 2) (by omega))) (av_1 (ev_v 8) av_nil)) ⟨junk ++ tail, m, rfl, hjt, by omega, by omega, rfl⟩) (ev_c (c_lrn Ds T) hr1 (av_1 (EV.fz (ev_catI junk tail (ev_v 1) (ev_v 2) (by omega))) (av_1 (ev_v 8) av_nil)) ⟨junk ++ tail, m, rfl, hjt, by omega, by omega, rfl⟩) (rn_ok hjt (by omega) _ (by omega)) (dep_rn _)) ⟨rfl, ?_⟩
  show some (R.box (bx ns (c2 + 1 + 1))) = some (R.box (bx ns (c2 + 2)))
  rw [show c2 + 1 + 1 = c2 + 2 by omega]
end
end K90

set_option maxRecDepth 100000
set_option maxHeartbeats 4000000
namespace K90
open PySem L2 DL
def lst0 (os : List Int) : Int := os.getLast?.getD 0
def bad8 (d : Dd) : List (List Int) := [[0, 19], [0], [], sealed [(d.k : Int)], sealed ([(d.k : Int)] ++ [10] ++ List.replicate 10 2 ++ wnum d.n)]
/-- a record spoilt, the draws from c on -/
def spoK (ns : List Int) (c : Int) (d : Dd) (k : Int) : List Int × Int :=
  if k = 0 then (sealed ([(d.k : Int)] ++ lword d.w ++ (wnum d.n).dropLast ++ [lst0 (wnum d.n) + 128, 0]), c)
  else if k = 1 then (sealed ([(d.k : Int)] ++ [(d.w.length : Int) + 1] ++ d.w ++ wnum d.n), c)
  else if k = 2 then (sealed ([(d.k : Int)] ++ lword d.w ++ wnum d.n ++ [dr ns c 256]), c + 1)
  else if k = 3 then (sealed ([pk ns c [7, 8, 127, 128, 255] 0] ++ lword d.w ++ wnum d.n), c + 1)
  else if k = 4 then (sealed ([(d.k : Int)] ++ lword d.w), c)
  else if k = 5 then ((rec d).dropLast ++ [(lst0 (rec d) + 1 + dr ns c 255).fmod 256], c + 1)
  else if k = 6 then ([((body d).length : Int) + pk ns c [1, -1] 0] ++ (rec d).drop 1, c + 1)
  else if k = 7 then ((rec d).dropLast, c)
  else if k = 8 then (pk ns c (bad8 d) [], c + 1)
  else ((rec d).take (dr ns c (rec d).length).toNat ++ [((rec d).getD (dr ns c (rec d).length).toNat 0 + 1 + dr ns (c + 1) 255).fmod 256] ++ (rec d).drop ((dr ns c (rec d).length).toNat + 1), c + 2)
def spo (ns : List Int) (c : Int) (d : Dd) : List Int × Int := spoK ns (c + 1) d (dr ns c 10)
theorem sealed_oct {os : List Int} (h : Oct os) (hl : os.length ≤ 255) : Oct (sealed os) := by
  have hc := chk_le os
  exact Oct.cons ⟨by omega, by omega⟩ (h.app (Oct.cons ⟨hc.1, by omega⟩ Oct.nil))
theorem sealed_len (os : List Int) : (sealed os).length = os.length + 2 := by simp [sealed]
theorem o1 {i : Int} (h : 0 ≤ i ∧ i ≤ 255) : Oct [i] := Oct.cons h Oct.nil
theorem Oct.dL {os : List Int} (h : Oct os) : Oct os.dropLast := fun o ho => h o (List.dropLast_subset _ ho)
theorem fmod256 (i : Int) : 0 ≤ i.fmod 256 ∧ i.fmod 256 ≤ 255 := by
  rw [Int.fmod_eq_emod_of_nonneg _ (by omega)]; omega
theorem bad8_ok {d : Dd} (h : d.Ok) : ∀ x ∈ bad8 d, Oct x ∧ x.length ≤ 30 := by
  have hno : Oct (wnum d.n) := wnF_oct 6 _ (zz_nn _) (zz_lt h.n.1 h.n.2)
  have hnl := wnum_len d.n
  have hk := h.k
  intro x hx
  unfold bad8 at hx
  simp only [List.mem_cons, List.not_mem_nil, or_false] at hx
  have hr : Oct (List.replicate 10 2) := fun o ho => by have := (List.mem_replicate.mp ho).2; omega
  rcases hx with rfl | rfl | rfl | rfl | rfl
  · exact ⟨Oct.cons (by omega) (o1 (by omega)), by decide⟩
  · exact ⟨o1 (by omega), by decide⟩
  · exact ⟨Oct.nil, by decide⟩
  · exact ⟨sealed_oct (o1 (by omega)) (by simp), by simp [sealed]⟩
  · exact ⟨sealed_oct ((((o1 (by omega)).app (o1 (by omega))).app hr).app hno) (by simp; omega), by rw [sealed_len]; simp; omega⟩
theorem spoK_ok (ns : List Int) {c : Int} (hc : 0 ≤ c) {d : Dd} (h : d.Ok) (k : Int) : Oct (spoK ns c d k).1 ∧ (spoK ns c d k).1.length ≤ 30 ∧ 0 ≤ (spoK ns c d k).2 := by
  have hro := rec_oct h
  have hrl := rec_len d
  have hb := body_len d h
  have hno : Oct (wnum d.n) := wnF_oct 6 _ (zz_nn _) (zz_lt h.n.1 h.n.2)
  have hnl := wnum_len d.n
  have hlo := lword_oct h.w
  have hw := h.w.1
  have hll : (lword d.w).length ≤ 10 := by simp [lword]; omega
  have hk := h.k
  have hla := wnF_last 6 _ (zz_nn d.n) (zz_lt h.n.1 h.n.2)
  have hla : 0 ≤ lst0 (wnum d.n) ∧ lst0 (wnum d.n) ≤ 127 := hla
  unfold spoK
  split
  · exact ⟨sealed_oct ((((o1 (by omega)).app hlo).app hno.dL).app (Oct.cons (by omega) (o1 (by omega)))) (by simp; omega), by rw [sealed_len]; simp; omega, hc⟩
  split
  · exact ⟨sealed_oct ((((o1 (by omega)).app (o1 (by omega))).app fun o ho => by have := h.w.2 o ho; omega).app hno) (by simp; omega), by rw [sealed_len]; simp; omega, hc⟩
  split
  · have := dr_lt (ns := ns) (c := c) (m := 256) (by omega)
    exact ⟨sealed_oct ((((o1 (by omega)).app hlo).app hno).app (o1 (by omega))) (by simp; omega), by rw [sealed_len]; simp; omega, by show 0 ≤ c + 1; omega⟩
  split
  · have hm : pk ns c [7, 8, 127, 128, 255] 0 ∈ ([7, 8, 127, 128, 255] : List Int) := pk_mem (by decide)
    have hh : ∀ x ∈ ([7, 8, 127, 128, 255] : List Int), 0 ≤ x ∧ x ≤ 255 := by decide
    exact ⟨sealed_oct (((o1 (hh _ hm)).app hlo).app hno) (by simp; omega), by rw [sealed_len]; simp; omega, by show 0 ≤ c + 1; omega⟩
  split
  · exact ⟨sealed_oct ((o1 (by omega)).app hlo) (by simp; omega), by rw [sealed_len]; simp; omega, hc⟩
  split
  · exact ⟨hro.dL.app (o1 (fmod256 _)), by simp; omega, by show 0 ≤ c + 1; omega⟩
  split
  · have hm : pk ns c [1, -1] 0 ∈ ([1, -1] : List Int) := pk_mem (by decide)
    have hh : ∀ x ∈ ([1, -1] : List Int), -1 ≤ x ∧ x ≤ 1 := by decide
    have := hh _ hm
    have hb1 : 1 ≤ (body d).length := by simp [body]
    exact ⟨(o1 (by omega)).app (hro.drop 1), by simp; omega, by show 0 ≤ c + 1; omega⟩
  split
  · exact ⟨hro.dL, by simp; omega, hc⟩
  split
  · have hm : pk ns c (bad8 d) [] ∈ bad8 d := pk_mem (by simp [bad8])
    exact ⟨(bad8_ok h _ hm).1, (bad8_ok h _ hm).2, by show 0 ≤ c + 1; omega⟩
  · exact ⟨((hro.take _).app (o1 (fmod256 _))).app (hro.drop _), by simp; omega, by show 0 ≤ c + 2; omega⟩
def SSpo (bs ds : List D) (r : R) (bs' : List D) : Prop := ∃ ns c d, bs = bx ns c ∧ ds = [ddD d, dI (rec d)] ∧ d.Ok ∧ 0 ≤ c ∧ r = .imm (dI (spo ns c d).1) ∧ bs' = bx ns (spo ns c d).2
end K90

set_option maxRecDepth 100000
set_option maxHeartbeats 4000000
namespace K90
open PySem L2 DL
section
variable {P : Program} {w : World} {K : PySem.W.Frag} {mg : Str → Option Value} {base : Heap}
theorem ev_slA {X : Cx} {es es1 : List R} {a : Expr} {p p2 p3 p4 : Pos} {os : List Int} {ra : R} {j : Nat} (h : EV X es a es1 ra) (v : view es1 ra = some (dI os)) : EV X es (.Subscript a (.Slice none (some (.UnaryOp .USub (.Constant (.int 1) j p) p2)) none p3) p4) es1 (.own (os.dropLast.map D.int)) :=
  EV.cast (ev_slice h ov_none (ov_some (ev_neg ev_int)) v) (by rw [cutD_init, List.map_dropLast])
theorem ev_slF {X : Cx} {es es1 es2 : List R} {a b : Expr} {p3 p4 : Pos} {os : List Int} {ra : R} {n : Nat} {i : Int} (h : EV X es a es1 ra) (hb : EV X es1 b es2 (.imm (.int i))) (v : view es2 ra = some (dI os)) (hi : i = (n : Int)) : EV X es (.Subscript a (.Slice (some b) none none p3) p4) es2 (.own ((os.drop n).map D.int)) := by
  subst hi
  exact EV.cast (ev_slice h (ov_some hb) ov_none v) (by rw [cutD_from (by omega), Int.toNat_natCast, List.map_drop])
theorem ev_slT {X : Cx} {es es1 es2 : List R} {a b : Expr} {p3 p4 : Pos} {os : List Int} {ra : R} {n : Nat} {i : Int} (h : EV X es a es1 ra) (hb : EV X es1 b es2 (.imm (.int i))) (v : view es2 ra = some (dI os)) (hi : i = (n : Int)) : EV X es (.Subscript a (.Slice none (some b) none p3) p4) es2 (.own ((os.take n).map D.int)) := by
  subst hi
  exact EV.cast (ev_slice h ov_none (ov_some hb) v) (by rw [cutD_to (by omega), Int.toNat_natCast, List.map_take])
theorem c_spo (Ds : Defs K mg) (T : Blt mg) (G : Glb K mg) : Cal P w K mg base 3 "_law_spoilt" pLawSpoilt (spB K SSpo) := by
  refine cal_b Ds.dLawSpoilt scLawSpoilt (fun bs ds r bs' ⟨_, _, _, _, e, _⟩ => by rw [e]; rfl) (fun f cdv A outer s H E hr bs ds r bs' hS hres => ?_)
  obtain ⟨ns, c, d, rfl, rfl, h, hc, rfl, rfl⟩ := hS
  have nd := scLawSpoilt.nd
  have hr2 : Room 2 _ := hr
  have hr1 : Room 1 _ := hr.mono (by decide)
  have hro := rec_oct h
  have hrl := rec_len d
  have hb := body_len d h
  have hno : Oct (wnum d.n) := wnF_oct 6 _ (zz_nn _) (zz_lt h.n.1 h.n.2)
  have hnl := wnum_len d.n
  have hlo := lword_oct h.w
  have hw := h.w.1
  have hll : (lword d.w).length = d.w.length + 1 := rfl
  have hne : wnum d.n ≠ [] := fun z => by have := (wnF_len 6 (zz d.n)).2; rw [show wnF 6 (zz d.n) = wnum d.n from rfl, z] at this; simp at this
  have hre : rec d ≠ [] := fun z => by rw [z] at hrl; simp at hrl
  refine v_set 3 nd (ev_at (d := .int d.k) (ev_v 2) ev_int rfl at_1) ?_
  refine v_set 4 nd (ev_c (c_lww Ds T G) hr1 (av_1 (ev_at (d := .str (wordOf d.w)) (ev_v 1) ev_int rfl (at_tup (k := 1) rfl)) av_nil) ⟨d.w, rfl, h.w, rfl⟩) (sv_fz (j := 4) rfl ?_)
  refine v_set 5 nd (ev_c (c_lnum Ds T) hr1 (av_1 (ev_at (d := .int d.n) (ev_v 1) ev_int rfl (at_tup (k := 2) rfl)) av_nil) ⟨d.n, rfl, h.n.1, h.n.2, rfl⟩) (sv_fz (j := 5) rfl ?_)
  refine v_set 6 nd (ev_cb (c_draw Ds T) hr1 (av_1 (ev_l 0) (av_1 ev_int av_nil)) (.inr rfl) (s_draw (m := 10) hc (by decide))) ?_
  unfold spo
  generalize dr ns c 10 = k
  have hc : 0 ≤ c + 1 := by omega
  generalize c + 1 = c at hc ⊢
  unfold spoK
  have pw : ∀ {X : Cx} {es : List R}, True := trivial
  refine v_if (tv_eq (ev_v 6) ev_int) (fun q => ?_) (fun q => sv_nil ?_)
  · rw [if_pos (of_decide_eq_true q)]
    exact v_ret (EV.fz (ev_c (c_sl Ds T) hr2 (av_1 (EV.fz (ev_catI ([(d.k : Int)] ++ lword d.w ++ (wnum d.n).dropLast) [lst0 (wnum d.n) + 128, 0] (ev_catI ([(d.k : Int)] ++ lword d.w) (wnum d.n).dropLast (ev_catI [(d.k : Int)] (lword d.w) (ev_lI (ev_v 3)) (ev_v 4) (by simp; omega)) (ev_slA (ev_v 5) rfl) (by simp; omega)) (ev_lI2 (ev_add (ev_at (ev_v 5) (ev_neg ev_int) rfl (at_last hne)) ev_int) ev_int) (by simp; omega))) av_nil) ⟨_, rfl, by simp; omega, rfl⟩)) ⟨rfl, rfl⟩
  rw [if_neg (of_decide_eq_false q)]
  refine v_if (tv_eq (ev_v 6) ev_int) (fun q => ?_) (fun q => sv_nil ?_)
  · rw [if_pos (of_decide_eq_true q)]
    exact v_ret (EV.fz (ev_c (c_sl Ds T) hr2 (av_1 (EV.fz (ev_catI ([(d.k : Int)] ++ [(d.w.length : Int) + 1] ++ d.w) (wnum d.n) (ev_catI ([(d.k : Int)] ++ [(d.w.length : Int) + 1]) d.w (ev_catI [(d.k : Int)] [(d.w.length : Int) + 1] (ev_lI (ev_v 3)) (ev_lI (ev_add (ev_at (d := .int d.w.length) (ev_v 4) ev_int rfl at_0) ev_int)) (by simp)) (ev_slF (n := 1) (os := lword d.w) (ev_v 4) ev_int rfl rfl) (by simp; omega)) (ev_v 5) (by simp; omega))) av_nil) ⟨_, rfl, by simp; omega, rfl⟩)) ⟨rfl, rfl⟩
  rw [if_neg (of_decide_eq_false q)]
  refine v_if (tv_eq (ev_v 6) ev_int) (fun q => ?_) (fun q => sv_nil ?_)
  · rw [if_pos (of_decide_eq_true q)]
    exact v_ret (EV.fz (ev_c (c_sl Ds T) hr2 (av_1 (EV.fz (ev_catI ([(d.k : Int)] ++ lword d.w ++ wnum d.n) [dr ns c 256] (ev_catI ([(d.k : Int)] ++ lword d.w) (wnum d.n) (ev_catI [(d.k : Int)] (lword d.w) (ev_lI (ev_v 3)) (ev_v 4) (by simp; omega)) (ev_v 5) (by simp; omega)) (ev_lI (ev_cb (c_draw Ds T) hr1 (av_1 (ev_l 0) (av_1 ev_int av_nil)) (.inr rfl) (s_draw (m := 256) hc (by decide)))) (by simp; omega))) av_nil) ⟨_, rfl, by simp; omega, rfl⟩)) ⟨rfl, rfl⟩
  rw [if_neg (of_decide_eq_false q)]
  refine v_if (tv_eq (ev_v 6) ev_int) (fun q => ?_) (fun q => sv_nil ?_)
  · rw [if_pos (of_decide_eq_true q)]
    exact v_ret (EV.fz (ev_c (c_sl Ds T) hr2 (av_1 (EV.fz (ev_catI ([pk ns c [7, 8, 127, 128, 255] 0] ++ lword d.w) (wnum d.n) (ev_catI [pk ns c [7, 8, 127, 128, 255] 0] (lword d.w) (ev_lI (ev_cb (c_pick Ds T) hr2 (av_1 (ev_l 0) (av_1 (EV.fz (ev_lst (ds := [.int 7, .int 8, .int 127, .int 128, .int 255]) (av_1 ev_int <| av_1 ev_int <| av_1 ev_int <| av_1 ev_int <| av_1 ev_int av_nil) rfl (by decide))) av_nil)) (.inr rfl) (s_pick (xs := [7, 8, 127, 128, 255]) D.int (0 : Int) hc (by decide)))) (ev_v 4) (by simp; omega)) (ev_v 5) (by simp; omega))) av_nil) ⟨_, rfl, by simp; omega, rfl⟩)) ⟨rfl, rfl⟩
  rw [if_neg (of_decide_eq_false q)]
  refine v_if (tv_eq (ev_v 6) ev_int) (fun q => ?_) (fun q => sv_nil ?_)
  · rw [if_pos (of_decide_eq_true q)]
    exact v_ret (EV.fz (ev_c (c_sl Ds T) hr2 (av_1 (EV.fz (ev_catI [(d.k : Int)] (lword d.w) (ev_lI (ev_v 3)) (ev_v 4) (by simp; omega))) av_nil) ⟨_, rfl, by simp; omega, rfl⟩)) ⟨rfl, rfl⟩
  rw [if_neg (of_decide_eq_false q)]
  refine v_if (tv_eq (ev_v 6) ev_int) (fun q => ?_) (fun q => sv_nil ?_)
  · rw [if_pos (of_decide_eq_true q)]
    exact v_ret (EV.fz (ev_catI (rec d).dropLast [(lst0 (rec d) + 1 + dr ns c 255).fmod 256] (ev_slA (ev_v 2) rfl) (ev_lI (ev_mod (ev_intc (ev_add (ev_add (ev_at (ev_v 2) (ev_neg ev_int) rfl (at_last hre)) ev_int) (ev_cb (c_draw Ds T) hr1 (av_1 (ev_l 0) (av_1 ev_int av_nil)) (.inr rfl) (s_draw (m := 255) hc (by decide)))) T.int) ev_int (by decide))) (by simp; omega))) ⟨rfl, rfl⟩
  rw [if_neg (of_decide_eq_false q)]
  refine v_if (tv_eq (ev_v 6) ev_int) (fun q => ?_) (fun q => sv_nil ?_)
  · rw [if_pos (of_decide_eq_true q)]
    exact v_ret (EV.fz (ev_catI [((body d).length : Int) + pk ns c [1, -1] 0] ((rec d).drop 1) (ev_lI (ev_add (ev_at (d := .int (body d).length) (ev_v 2) ev_int rfl at_0) (ev_cb (c_pick Ds T) hr2 (av_1 (ev_l 0) (av_1 (EV.fz (ev_l2 (d := .int 1) (d' := .int (-1)) ev_int (ev_neg ev_int))) av_nil)) (.inr rfl) (s_pick (xs := [1, -1]) D.int (0 : Int) hc (by decide))))) (ev_slF (n := 1) (os := rec d) (ev_v 2) ev_int rfl rfl) (by simp; omega))) ⟨rfl, rfl⟩
  rw [if_neg (of_decide_eq_false q)]
  refine v_if (tv_eq (ev_v 6) ev_int) (fun q => ?_) (fun q => sv_nil ?_)
  · rw [if_pos (of_decide_eq_true q)]
    exact v_ret (EV.fz (ev_slA (ev_v 2) rfl)) ⟨rfl, rfl⟩
  rw [if_neg (of_decide_eq_false q)]
  refine v_if (tv_eq (ev_v 6) ev_int) (fun q => ?_) (fun q => sv_nil ?_)
  · rw [if_pos (of_decide_eq_true q)]
    have rep : (List.replicate (10 : Int).toNat [D.int 2]).flatten = (List.replicate 10 2).map D.int := rfl
    exact v_ret (ev_cb (c_pick Ds T) hr2 (av_1 (ev_l 0) (av_1 (EV.fz (ev_lst (ds := (bad8 d).map dI)
      (av_1 (EV.fz (ev_lI2 ev_int ev_int)) <| av_1 (EV.fz (ev_lI ev_int)) <| av_1 (EV.fz ev_nil) <| av_1 (EV.fz (ev_c (c_sl Ds T) hr2 (av_1 (EV.fz (ev_lI (ev_v 3))) av_nil) ⟨[(d.k : Int)], rfl, by simp, rfl⟩)) <|
       av_1 (EV.fz (ev_c (c_sl Ds T) hr2 (av_1 (EV.fz (ev_catI ([(d.k : Int)] ++ [10] ++ List.replicate 10 2) (wnum d.n) (ev_catI ([(d.k : Int)] ++ [10]) (List.replicate 10 2) (ev_catI [(d.k : Int)] [10] (ev_lI (ev_v 3)) (ev_lI ev_int) (by simp)) (EV.cast (ev_rep (ds := [.int 2]) (ev_l1 ev_int) ev_int rfl (by decide) (by decide)) (by rw [rep])) (by simp)) (ev_v 5) (by simp; omega))) av_nil) ⟨_, rfl, by simp; omega, rfl⟩)) av_nil) rfl (by simp [bad8]))) av_nil)) (.inr rfl) (s_pick (xs := bad8 d) dI ([] : List Int) hc (by simp [bad8]))) ⟨rfl, rfl⟩
  rw [if_neg (of_decide_eq_false q)]
  have ha := dr_lt (ns := ns) (c := c) (m := ((rec d).length : Nat)) (by omega)
  refine v_set 7 nd (ev_cb (c_draw Ds T) hr1 (av_1 (ev_l 0) (av_1 (ev_len (n := (rec d).length) (ev_v 2) rfl len_I T.len) av_nil)) (.inr rfl) (s_draw (m := ((rec d).length : Nat)) hc (by omega))) ?_
  generalize dr ns c ((rec d).length : Nat) = m at ha ⊢
  obtain ⟨m, rfl⟩ : ∃ n : Nat, m = (n : Int) := ⟨m.toNat, by omega⟩
  rw [Int.toNat_natCast]
  have hat : (dI (rec d)).at (m : Int) = some (.int ((rec d).getD m 0)) := at_ints (ns := rec d) (k := (m : Int)) (by omega) (by omega)
  refine v_ret (EV.fz (ev_catI ((rec d).take m ++ [((rec d).getD m 0 + 1 + dr ns (c + 1) 255).fmod 256]) ((rec d).drop (m + 1)) (ev_catI ((rec d).take m) [((rec d).getD m 0 + 1 + dr ns (c + 1) 255).fmod 256] (ev_slT (n := m) (os := rec d) (ev_v 2) (ev_v 7) rfl rfl) (ev_lI (ev_mod (ev_intc (ev_add (ev_add (ev_at (d := .int ((rec d).getD m 0)) (ev_v 2) (ev_v 7) rfl hat) ev_int) (ev_cb (c_draw Ds T) hr1 (av_1 (ev_l 0) (av_1 ev_int av_nil)) (.inr rfl) (s_draw (c := c + 1) (m := 255) (by omega) (by decide)))) T.int) ev_int (by decide))) (by simp; omega)) (ev_slF (n := m + 1) (os := rec d) (ev_v 2) (ev_add (ev_v 7) ev_int) rfl (by omega)) (by simp; omega))) ⟨rfl, ?_⟩
  show some (R.box (bx ns (c + 1 + 1))) = some (R.box (bx ns (c + 2)))
  rw [show c + 1 + 1 = c + 2 by omega]
end
end K90

set_option maxRecDepth 100000
set_option maxHeartbeats 4000000
namespace DL
open PySem L2
section
variable {X : Cx} {es es1 : List R} {rest : List Stmt} {pos : Pos} {P : Post}
theorem v_forC (pat : Nat → Int → List R) {tg iter : Expr} {body : List Stmt} {ds : List D} (hi : IV X es tg iter es1 ds) (h0 : ∃ c, 0 ≤ c ∧ Wk es1 (pat 0 c))
    (hs : ∀ k d (c : Int), ds[k]? = some d → 0 ≤ c → ∃ e' is, GV X (pat k c) tg d e' is ∧ SV X e' body { nx := fun e => ∃ c, 0 ≤ c ∧ Wk e (pat (k + 1) c), rt := P.rt, ct := fun e => ∃ c, 0 ≤ c ∧ Wk e (pat (k + 1) c), bk := fun e => SV X e rest P }) (hd : ∀ c, 0 ≤ c → SV X (pat ds.length c) rest P)
    (hc : X.calm = true := by rfl) (hfs : ∀ x, foldedSetIterable iter X.env x = pure x := by intro _; rfl) (hxe : X.xe = fun _ _ => False := by rfl) : SV X es (.For tg iter body [] pos :: rest) P :=
  v_for (fun i e => ∃ c, 0 ≤ c ∧ Wk e (pat i c)) hi h0 (fun k d e hk ⟨c, hc, hw⟩ => by
    obtain ⟨e', is, hg, hb⟩ := hs k d c hk hc
    exact ⟨e', is, GV.wk hg hw, hb⟩) (fun e ⟨c, hc, hw⟩ => sv_wk (hd c hc) hw) hc hfs hxe
theorem v_setLc {tg elt iter : Expr} {scope : Scope} {own : List (Str × Nat)} {ds : List D} (i : Nat) (I : Nat → List R → List D → Prop) {out : List D} {es' : List R} {y : Str} {py spos : Pos} (hN : X.N.Nodup)
    (hi : IV X es tg iter es1 ds) (hown : ∀ i ∈ own.map (·.2), ∀ r, es1[i]? = some r → r.isOwn = false) (h0 : I 0 (wipeR es1 (own.map (·.2))) []) (W : Turns X scope (own.map (·.2)) tg elt none ds I) (hd : ∀ e acc, I ds.length e acc → wipeR e (own.map (·.2)) = es' ∧ acc = out)
    (ok : BlkOk X.N X.env.scope scope own) (k : SV X (es'.set i (.own out)) rest P)
    (hc : X.calm = true := by rfl) (hy : X.N[i]? = some y := by rfl) (hyl : X.env.scope.names.lookup y = some .local := by rfl) (hsw : swapsWith (.ListComp elt [⟨tg, iter, [], 0⟩] scope pos) (some (.Name y py)) spos.line X.env = pure true := by rfl)
    (hs : ∀ x, foldedSetIterable iter X.env x = pure x := by intro _; rfl) : SV X es (.Assign [.Name y py] (.ListComp elt [⟨tg, iter, [], 0⟩] scope pos) spos :: rest) P :=
  sv_cons (s_setLc (cond := none) I hi hown h0 W hd k hc hN hy hyl hsw ok hs)
end
end DL
namespace K90
open PySem L2 DL
/-! drawn lists -/
def drs (ns : List Int) (c : Int) (k : Nat) : List Int := (List.range k).map fun i => dr ns (c + (i : Nat)) 256
theorem drs_len (ns : List Int) (c : Int) (k : Nat) : (drs ns c k).length = k := by simp [drs]
theorem drs_oct (ns : List Int) (c : Int) (k : Nat) : Oct (drs ns c k) := fun o ho => by
  simp only [drs, List.mem_map] at ho
  obtain ⟨i, _, rfl⟩ := ho
  have := dr_lt (ns := ns) (c := c + (i : Nat)) (m := 256) (by omega)
  omega
theorem drs_succ (ns : List Int) (c : Int) (k : Nat) : drs ns c (k + 1) = drs ns c k ++ [dr ns (c + (k : Nat)) 256] := by
  unfold drs
  rw [List.range_succ, List.map_append]; rfl
/-! what _law_same looks through -/
theorem kd_ok : ∀ k, (D.str (kd k)).ok = true := by
  intro k
  by_cases h : k < 7
  · have key : ∀ k : Fin 7, (D.str (kd k.1)).ok = true := by decide +kernel
    exact key ⟨k, h⟩
  · have : kd k = "" := by
      unfold kd
      rw [List.getD_eq_getElem?_getD, List.getElem?_eq_none (by show 7 ≤ k; omega)]; rfl
    rw [this]; decide +kernel
theorem ok_small {i : Int} (h : i.natAbs < 2 ^ 20) : (D.int i).ok = true := ok_int (Nat.lt_of_lt_of_le h (Nat.pow_le_pow_right (by omega) (by omega)))
theorem rr_okD {d : Dd} {p : Int} (hw : Let d.w) (hn : (D.int d.n).ok = true) (hp : p.natAbs < 2 ^ 20) : (rrD (some (d, p))).ok = true := by
  refine ok_t2 ?_ (ok_small hp)
  rw [ddD, D.ok, oks, oks, oks, oks, kd_ok, reprWord_ok hw, hn]; rfl
theorem dep_rr (x : Option (Dd × Int)) : (rrD x).dep ≤ 3 := by
  cases x with
  | none => simp [rrD, D.dep]
  | some y => simp [rrD, ddD, D.dep, deps]
theorem rr_ok {os : List Int} (ho : Oct os) (hl : os.length ≤ 200) (a : Nat) (ha : a ≤ 1000) : (rrD (rrec os a)).ok = true := by
  cases e : rrec os a with
  | none => rfl
  | some x =>
    obtain ⟨d, p⟩ := x
    unfold rrec at e
    split at e
    · cases e
    rename_i hn
    dsimp only at e
    split at e
    · cases e
    have hob := ((ho.drop (a + 1)).take (os.getD a 0).toNat)
    have hlb : ((os.drop (a + 1)).take (os.getD a 0).toNat).length ≤ 200 := by simp; omega
    unfold rrTail at e
    cases e1 : rword ((os.drop (a + 1)).take (os.getD a 0).toNat) 1 with
    | none => rw [e1] at e; cases e
    | some x =>
      rw [e1, Option.bind_some] at e
      obtain ⟨ls, q⟩ := x
      obtain ⟨h1, h2, h3⟩ := rword_ok hob e1
      dsimp only at e
      have hk := rn_ok hob hlb q.toNat (by omega)
      cases e2 : rnum ((os.drop (a + 1)).take (os.getD a 0).toNat) q.toNat with
      | none => rw [e2] at e; cases e
      | some y =>
        rw [e2, Option.bind_some] at e
        rw [e2] at hk
        split at e
        · cases e
        · cases e
          refine rr_okD h1 ?_ ?_
          · rw [rnD, D.ok, oks, Bool.and_eq_true, Bool.and_eq_true] at hk
            exact hk.2.1
          · have h3 : (2 : Nat) ^ 20 = 1048576 := rfl
            omega
theorem rec_cut1 (d : Dd) : cutD ((rec d).map D.int) (some 1) (some (-1)) = (body d).map D.int := by
  unfold cutD
  rw [sIx_neg1, show (some (1 : Int)) = some ((1 : Nat) : Int) from rfl, HT.sIx_nat]
  have h : (rec d).map D.int = .int (body d).length :: ((body d).map D.int ++ [.int (chk (body d))]) := by
    unfold rec sealed
    rw [List.map_cons, List.map_append]; rfl
  rw [h]
  simp
theorem rec_last (d : Dd) : (rec d).getLast?.getD 0 = chk (body d) := by
  unfold rec sealed
  rw [List.getLast?_cons]; simp
end K90

set_option maxRecDepth 100000
set_option maxHeartbeats 8000000
namespace K90
open PySem L2 DL
section
variable {P : Program} {w : World} {K : PySem.W.Frag} {mg : Str → Option Value} {base : Heap}
theorem ok_law {f : Addr} {fd : FuncData} (Ds : Defs K mg) (T : Blt mg) (G : Glb K mg) (F : Fun K "law" "law" sLaw f fd) (hm : mg "law" = some (.ref f)) : FnOk P w K mg base CX0 7 f fd ["script"] (spP K SLaw) := by
  refine fn_p F scLaw (fun ds r ⟨_, e, _⟩ => by rw [e]; rfl) (fun cdv A outer s H E hr ds r hS hres => ?_)
  obtain ⟨ns0, rfl, hlen, rfl⟩ := hS
  have nd := scLaw.nd
  have hr6 : Room 6 _ := hr
  have hr4 : Room 4 _ := hr.mono (by decide)
  have hr3 : Room 3 _ := hr.mono (by decide)
  have hr2 : Room 2 _ := hr.mono (by decide)
  have hr1 : Room 1 _ := hr.mono (by decide)
  have cs := c_same (P := P) (w := w) (base := base) Ds T 3
  refine v_set 1 nd (EV.cast (r' := .own (bx (digN ns0 0 40) 0)) (ev_l2 (EV.fz (ev_c (c_dig Ds T) hr2 (av_1 (ev_v 0) (av_1 ev_int (av_1 ev_int av_nil))) ⟨ns0, 0, 40, rfl, by omega, by omega, by omega, rfl⟩)) ev_int) rfl) ?_
  generalize digN ns0 0 40 = ns
  refine v_forC (fun _ c => [.imm (.scr ns0), .own (bx ns c), .any, .any, .any, .any, .any, .any, .any, .any, .any]) (iv_range1 ev_int (by decide) (by decide) rfl T.range rfl) ⟨0, by omega, Wk.refl _⟩ ?_ ?_
  rotate_left
  · intro c hc
    exact v_ret (ev_same (d := .int 19) cs hr4 (ev_c (c_ck Ds T) hr1 (av_1 (EV.fz ev_nil) av_nil) ⟨[], rfl, by simp, rfl⟩) ev_int (by decide +kernel) (by decide)) rfl
  intro t d c hd hc
  obtain ⟨ht, rfl⟩ := rangeD_get hd
  refine ⟨_, _, g_n 2 nd, ?_⟩
  have h4 := dr_lt (ns := ns) (c := c) (m := 4) (by omega)
  refine v_setLc 3 (own := [("k", 4)]) (out := (drs ns (c + 1) (dr ns c 4).toNat).map D.int) (es' := [.imm (.scr ns0), .own (bx ns (c + 1 + ((dr ns c 4).toNat : Nat))), .imm (.int (0 + (t : Nat))), .any, .any, .any, .any, .any, .any, .any, .any]) (fun k e acc => e = [.imm (.scr ns0), .own (bx ns (c + 1 + (k : Nat))), .imm (.int (0 + (t : Nat))), .any, .any, .any, .any, .any, .any, .any, .any] ∧ acc = (drs ns (c + 1) k).map D.int) nd
    (iv_range1 (j := dr ns c 4) (ev_cb (c_draw Ds T) hr1 (av_1 (ev_l 1) (av_1 ev_int av_nil)) (.inl rfl) (s_draw (c := c) (m := 4) hc (by decide))) (by omega) (by omega) rfl T.range rfl)
    (notOwn_ok rfl) ⟨by show ([.imm (.scr ns0), .own (bx ns (c + 1)), .imm (.int (0 + (t : Nat))), .any, .any, .any, .any, .any, .any, .any, .any] : List R) = _; simp, rfl⟩ ⟨?_⟩ ?_ (blkOk_by (N := nLaw) (sc := defScope sLaw) (by decide +kernel)) ?_
  · rintro k d e acc hd ⟨rfl, rfl⟩
    obtain ⟨hk, rfl⟩ := rangeD_get hd
    refine ⟨by rw [List.length_map, drs_len]; omega, _, [4], fun _ _ _ _ _ => g_n 4 nd, by decide, ?_⟩
    refine ⟨_, .int (dr ns (c + 1 + (k : Nat)) 256), fun _ _ _ _ _ => ev_cb (c_draw Ds T) hr1 (av_1 (ev_l 1) (av_1 ev_int av_nil)) (.inl rfl) (s_draw (c := c + 1 + (k : Nat)) (m := 256) (by omega) (by decide)), ?_, ?_⟩
    · show ([.imm (.scr ns0), .own (bx ns (c + 1 + (k : Nat) + 1)), .imm (.int (0 + (t : Nat))), .any, .any, .any, .any, .any, .any, .any, .any] : List R) = [.imm (.scr ns0), .own (bx ns (c + 1 + ((k + 1 : Nat) : Int))), .imm (.int (0 + (t : Nat))), .any, .any, .any, .any, .any, .any, .any, .any]
      rw [show c + 1 + (k : Nat) + 1 = c + 1 + ((k + 1 : Nat) : Int) by omega]
    · rw [drs_succ, List.map_append]; rfl
  · rintro e acc ⟨rfl, rfl⟩
    have hl : (rangeD 0 (dr ns c 4)).length = (dr ns c 4).toNat := by rw [rangeD_len]; simp
    rw [hl]
    exact ⟨rfl, rfl⟩
  refine sv_fz (j := 3) rfl ?_
  have hjo := drs_oct ns (c + 1) (dr ns c 4).toNat
  have hjl : (drs ns (c + 1) (dr ns c 4).toNat).length ≤ 3 := by rw [drs_len]; omega
  have hc1 : 0 ≤ c + 1 + ((dr ns c 4).toNat : Nat) := by omega
  generalize drs ns (c + 1) (dr ns c 4).toNat = junk at hjo hjl ⊢
  generalize c + 1 + ((dr ns c 4).toNat : Nat) = c1 at hc1 ⊢
  clear h4
  have h4 := dr_lt (ns := ns) (c := c1) (m := 4) (by omega)
  refine v_setLc 5 (own := [("k", 4)]) (out := (drs ns (c1 + 1) (dr ns c1 4).toNat).map D.int) (es' := [.imm (.scr ns0), .own (bx ns (c1 + 1 + ((dr ns c1 4).toNat : Nat))), .imm (.int (0 + (t : Nat))), .imm (dI junk), .any, .any, .any, .any, .any, .any, .any]) (fun k e acc => e = [.imm (.scr ns0), .own (bx ns (c1 + 1 + (k : Nat))), .imm (.int (0 + (t : Nat))), .imm (dI junk), .any, .any, .any, .any, .any, .any, .any] ∧ acc = (drs ns (c1 + 1) k).map D.int) nd
    (iv_range1 (j := dr ns c1 4) (ev_cb (c_draw Ds T) hr1 (av_1 (ev_l 1) (av_1 ev_int av_nil)) (.inl rfl) (s_draw (c := c1) (m := 4) hc1 (by decide))) (by omega) (by omega) rfl T.range rfl)
    (notOwn_ok rfl) ⟨by show ([.imm (.scr ns0), .own (bx ns (c1 + 1)), .imm (.int (0 + (t : Nat))), .imm (dI junk), .any, .any, .any, .any, .any, .any, .any] : List R) = _; simp, rfl⟩ ⟨?_⟩ ?_ (blkOk_by (N := nLaw) (sc := defScope sLaw) (by decide +kernel)) ?_
  · rintro k d e acc hd ⟨rfl, rfl⟩
    obtain ⟨hk, rfl⟩ := rangeD_get hd
    refine ⟨by rw [List.length_map, drs_len]; omega, _, [4], fun _ _ _ _ _ => g_n 4 nd, by decide, ?_⟩
    refine ⟨_, .int (dr ns (c1 + 1 + (k : Nat)) 256), fun _ _ _ _ _ => ev_cb (c_draw Ds T) hr1 (av_1 (ev_l 1) (av_1 ev_int av_nil)) (.inl rfl) (s_draw (c := c1 + 1 + (k : Nat)) (m := 256) (by omega) (by decide)), ?_, ?_⟩
    · show ([.imm (.scr ns0), .own (bx ns (c1 + 1 + (k : Nat) + 1)), .imm (.int (0 + (t : Nat))), .imm (dI junk), .any, .any, .any, .any, .any, .any, .any] : List R) = [.imm (.scr ns0), .own (bx ns (c1 + 1 + ((k + 1 : Nat) : Int))), .imm (.int (0 + (t : Nat))), .imm (dI junk), .any, .any, .any, .any, .any, .any, .any]
      rw [show c1 + 1 + (k : Nat) + 1 = c1 + 1 + ((k + 1 : Nat) : Int) by omega]
    · rw [drs_succ, List.map_append]; rfl
  · rintro e acc ⟨rfl, rfl⟩
    have hl : (rangeD 0 (dr ns c1 4)).length = (dr ns c1 4).toNat := by rw [rangeD_len]; simp
    rw [hl]
    exact ⟨rfl, rfl⟩
  refine sv_fz (j := 5) rfl ?_
  have hto := drs_oct ns (c1 + 1) (dr ns c1 4).toNat
  have htl : (drs ns (c1 + 1) (dr ns c1 4).toNat).length ≤ 3 := by rw [drs_len]; omega
  have hc2 : 0 ≤ c1 + 1 + ((dr ns c1 4).toNat : Nat) := by omega
  generalize drs ns (c1 + 1) (dr ns c1 4).toNat = tail at hto htl ⊢
  generalize c1 + 1 + ((dr ns c1 4).toNat : Nat) = c2 at hc2 ⊢
  -- the pieces
  refine v_if (tv_not (tv_v (ev_cb (c_pc Ds T G) hr6 (av_1 (ev_l 1) (av_1 (EV.fz (ev_list (ds := junk.map D.int) (ev_v 3) (.inl rfl) T.list)) (av_1 (EV.fz (ev_list (ds := tail.map D.int) (ev_v 5) (.inl rfl) T.list)) av_nil))) (.inl rfl) ⟨ns, c2, junk, tail, rfl, rfl, hc2, hjo, hto, hjl, htl, rfl, rfl⟩))) (fun h => by cases h) (fun _ => sv_nil ?_)
  have hc3 : 0 ≤ cPc ns c2 := by
    have h1 := (dnum_ok ns hc2).2.2
    have h2 := wlen_ok ns (dnum ns c2).2
    unfold cPc dwc; omega
  generalize cPc ns c2 = c3 at hc3 ⊢
  -- the deed
  have hc4 : 0 ≤ dwc ns (c3 + 1) := by
    have h2 := wlen_ok ns (c3 + 1)
    unfold dwc; omega
  obtain ⟨n1, n2, n3⟩ := dnum_ok ns hc4
  have hdO : ∃ d : Dd, d.Ok ∧ d = ⟨((dr ns c3 1000).fmod 7).toNat, dword ns (c3 + 1), (dnum ns (dwc ns (c3 + 1))).1⟩ := by
    have h1 := Int.fmod_nonneg_of_pos (dr ns c3 1000) (b := 7) (by omega)
    have h2 := Int.fmod_lt_of_pos (dr ns c3 1000) (b := 7) (by omega)
    exact ⟨_, ⟨by show ((dr ns c3 1000).fmod 7).toNat < 7; omega, dword_ok ns (c3 + 1), n1, n2⟩, rfl⟩
  obtain ⟨d, hdo, hde⟩ := hdO
  refine v_set 6 nd (EV.cast (r' := .imm (ddD d)) (ev_t3 (ev_cb (c_pick Ds T) hr2 (av_1 (ev_l 1) (av_1 (EV.fz (ev_c0 (c_kinds Ds T) hr1 ⟨rfl, rfl⟩)) av_nil)) (.inl rfl) (s_pick (xs := kinds) D.str ("" : Str) hc3 (by decide))) (ev_cb (c_dw Ds T) hr3 (av_1 (ev_l 1) av_nil) (.inl rfl) ⟨ns, c3 + 1, rfl, rfl, by omega, rfl, rfl⟩) (ev_cb (c_dn Ds T) hr3 (av_1 (ev_l 1) av_nil) (.inl rfl) ⟨ns, dwc ns (c3 + 1), rfl, rfl, hc4, rfl, rfl⟩)) (by rw [hde]; rfl)) ?_
  clear hde n1 n2
  generalize (dnum ns (dwc ns (c3 + 1))).2 = c4 at n3 ⊢
  refine v_set 7 nd (ev_c (c_lrec Ds T G) hr3 (av_1 (ev_v 6) av_nil) ⟨d, rfl, hdo, rfl⟩) (sv_fz (j := 7) rfl ?_)
  have hro := rec_oct hdo
  have hrl := rec_len d
  have hb := body_len d hdo
  have hb1 : 1 ≤ (body d).length := by simp [body]
  have hre : rec d ≠ [] := fun z => by rw [z] at hrl; simp at hrl
  have hck := chk_le (body d)
  -- record, check_of
  refine v_if (TV.cast (q := false) (WV.tv (WV.same (wv_or (p := false) (tv_not (tv_v (ev_same (d := dI (rec d)) cs hr4 (EV.fz (ev_c (c_rec Ds T G) hr2 (av_1 (ev_v 6) av_nil) ⟨d, rfl, hdo, rfl⟩)) (ev_v 7) (ok_I hro (by omega)) (by rw [dep_I]; omega)))) (fun _ => wv_or1 (tv_not (tv_v (ev_same (d := .int (chk (body d))) cs hr4 (ev_c (c_ck Ds T) hr1 (av_1 (EV.fz (EV.cast (ev_slice (ds := (rec d).map D.int) (ev_v 7) (ov_some ev_int) (ov_some (ev_neg ev_int)) rfl) (by rw [rec_cut1]))) av_nil) ⟨body d, rfl, by omega, rfl⟩) (ev_at (ev_v 7) (ev_neg ev_int) rfl (by rw [← rec_last]; exact at_last hre)) (ok_small (by have h3 : (2 : Nat) ^ 20 = 1048576 := rfl; omega)) (by simp [D.dep])))))))) rfl) (fun h => by cases h) (fun _ => sv_nil ?_)
  -- read_record of it
  have e1 := rrec_rec hdo junk tail
  have ob1 : Oct (junk ++ rec d ++ tail) := (hjo.app hro).app hto
  have lb1 : (junk ++ rec d ++ tail).length ≤ 100 := by simp; omega
  refine v_if (tv_not (tv_v (ev_same (d := rrD (rrec (junk ++ rec d ++ tail) junk.length)) cs hr4 (ev_c (c_rr Ds T G) hr2 (av_1 (EV.fz (ev_catI (junk ++ rec d) tail (ev_catI junk (rec d) (ev_v 3) (ev_v 7) (by omega)) (ev_v 5) (by simp; omega))) (av_1 (ev_len (ev_v 3) rfl len_I T.len) av_nil)) ⟨_, junk.length, rfl, ob1, by omega, by omega, rfl⟩) (EV.cast (ev_t2 (ev_v 6) (ev_add (ev_len (ev_v 3) rfl len_I T.len) (ev_len (ev_v 7) rfl len_I T.len))) (by rw [e1]; rfl)) (rr_ok ob1 (by omega) _ (by omega)) (dep_rr _)))) (fun h => by cases h) (fun _ => sv_nil ?_)
  -- appended
  have ea : (junk ++ tail).take junk.length ++ rec d = junk ++ rec d := by rw [List.take_left]
  refine v_if (tv_not (tv_v (ev_same (d := dI (junk ++ rec d)) cs hr4 (EV.fz (EV.cast (r' := .own ((junk ++ rec d).map D.int)) (ev_c (c_app Ds T G) hr3 (av_1 (EV.fz (ev_catI junk tail (ev_v 3) (ev_v 5) (by omega))) (av_1 (ev_len (ev_v 3) rfl len_I T.len) (av_1 (ev_v 6) av_nil))) ⟨junk ++ tail, junk.length, d, rfl, by simp; omega, hdo, rfl⟩) (by rw [ea]))) (EV.fz (ev_catI junk (rec d) (ev_v 3) (ev_v 7) (by omega))) (ok_I (hjo.app hro) (by simp; omega)) (by rw [dep_I]; omega)))) (fun h => by cases h) (fun _ => sv_nil ?_)
  -- spoilt
  refine v_forC (fun _ c => [.imm (.scr ns0), .own (bx ns c), .imm (.int (0 + (t : Nat))), .imm (dI junk), .any, .imm (dI tail), .imm (ddD d), .imm (dI (rec d)), .any, .any, .any]) (iv_range1 ev_int (by decide) (by decide) rfl T.range rfl) ⟨c4, n3, Wk.refl _⟩ ?_ ?_
  · intro u d2 c hd2 hc
    obtain ⟨hu, rfl⟩ := rangeD_get hd2
    refine ⟨_, _, g_n 8 nd, ?_⟩
    obtain ⟨so, sl, s2⟩ := spoK_ok ns (c := c + 1) (by omega) hdo (dr ns c 10)
    have so : Oct (spo ns c d).1 := so
    have sl : (spo ns c d).1.length ≤ 30 := sl
    have s2 : 0 ≤ (spo ns c d).2 := s2
    have sp : SSpo (bx ns c) [ddD d, dI (rec d)] (.imm (dI (spo ns c d).1)) (bx ns (spo ns c d).2) := ⟨ns, c, d, rfl, rfl, hdo, hc, rfl, rfl⟩
    generalize (spo ns c d).1 = bt at so sl sp ⊢
    generalize (spo ns c d).2 = c5 at s2 sp ⊢
    refine v_set 9 nd (ev_catI (junk ++ bt) tail (ev_catI junk bt (ev_v 3) (ev_cb (c_spo Ds T G) hr3 (av_1 (ev_l 1) (av_1 (ev_v 6) (av_1 (ev_v 7) av_nil))) (.inl rfl) sp) (by omega)) (ev_v 5) (by simp; omega)) (sv_fz (j := 9) rfl ?_)
    have ob2 : Oct (junk ++ bt ++ tail) := (hjo.app so).app hto
    have lb2 : (junk ++ bt ++ tail).length ≤ 100 := by simp; omega
    refine v_if (tv_not (tv_v (ev_same (d := rrD (rrec (junk ++ bt ++ tail) junk.length)) cs hr4 (ev_c (c_rr Ds T G) hr2 (av_1 (ev_v 9) (av_1 (ev_len (ev_v 3) rfl len_I T.len) av_nil)) ⟨_, junk.length, rfl, ob2, by omega, by omega, rfl⟩) (ev_c (c_lrr Ds T G) hr2 (av_1 (ev_v 9) (av_1 (ev_len (ev_v 3) rfl len_I T.len) av_nil)) ⟨_, junk.length, rfl, ob2, by omega, by omega, rfl⟩) (rr_ok ob2 (by omega) _ (by omega)) (dep_rr _)))) (fun h => by cases h) (fun _ => sv_nil (sv_nil ⟨c5, s2, ?_⟩))
    exact Wk.same <| Wk.same <| Wk.same <| Wk.same <| Wk.same <| Wk.same <| Wk.same <| Wk.same <| Wk.drop <| Wk.drop <| Wk.same Wk.nil
  · intro c hc
    have hx := dr_lt (ns := ns) (c := c) (m := ((rec d).length : Nat)) (by omega)
    refine v_set 10 nd (ev_slT (n := (dr ns c ((rec d).length : Nat)).toNat) (os := rec d) (ev_v 7) (ev_cb (c_draw Ds T) hr1 (av_1 (ev_l 1) (av_1 (ev_len (n := (rec d).length) (ev_v 7) rfl len_I T.len) av_nil)) (.inl rfl) (s_draw (m := ((rec d).length : Nat)) hc (by omega))) rfl (by omega)) (sv_fz (j := 10) rfl ?_)
    have hm : (dr ns c ((rec d).length : Nat)).toNat < (rec d).length := by omega
    generalize (dr ns c ((rec d).length : Nat)).toNat = m at hm ⊢
    have e3 := rrec_cut hdo junk hm
    have e4 := rrec_end (rec d)
    have ob3 : Oct (junk ++ (rec d).take m) := hjo.app (hro.take m)
    have lb3 : (junk ++ (rec d).take m).length ≤ 100 := by simp; omega
    refine v_if (TV.cast (q := false) (WV.tv (WV.same (wv_or (p := false) (TV.cast (q := false) (tv_notN (d := rrD (rrec (junk ++ (rec d).take m) junk.length)) (ev_c (c_rr Ds T G) hr2 (av_1 (EV.fz (ev_catI junk ((rec d).take m) (ev_v 3) (ev_v 10) (by simp; omega))) (av_1 (ev_len (ev_v 3) rfl len_I T.len) av_nil)) ⟨_, junk.length, rfl, ob3, by omega, by omega, rfl⟩) ev_non rfl) (by rw [e3]; rfl)) (fun _ => wv_or1 (TV.cast (q := false) (tv_notN (d := rrD (rrec (rec d) (rec d).length)) (ev_c (c_rr Ds T G) hr2 (av_1 (ev_v 7) (av_1 (ev_len (ev_v 7) rfl len_I T.len) av_nil)) ⟨_, (rec d).length, rfl, hro, by omega, by omega, rfl⟩) ev_non rfl) (by rw [e4]; rfl)))))) rfl) (fun h => by cases h) (fun _ => sv_nil (sv_nil ⟨c + 1, by omega, ?_⟩))
    exact Wk.same <| Wk.same <| Wk.drop <| Wk.drop <| Wk.same <| Wk.drop <| Wk.drop <| Wk.drop <| Wk.same <| Wk.same <| Wk.drop Wk.nil
end
end K90

set_option maxRecDepth 100000
set_option maxHeartbeats 4000000
namespace K90
open PySem L2 DL
theorem all_mk {l : PySem.W.OpenLaw} {w : World} {K : PySem.W.Frag} {h : Heap} {mg : Str → Option Value} {fa f1 f2 f3 f4 f5 f6 f7 f8 f9 f10 f11 f12 f13 f14 f15 f16 f17 f18 f19 f20 f21 f22 f23 f24 f25 f26 f27 : Addr} (X : K.In h) (G : h.Ns mainGlobals mg) (hfa : mg "law" = some (.ref fa))
    {od1 an1 od2 an2 od3 an3 od4 an4 od5 an5 od6 an6 od7 an7 od8 an8 od9 an9 od10 an10 od11 an11 od12 an12 od13 an13 od14 an14 od15 an15 od16 an16 od17 an17 od18 an18 od19 an19 od20 an20 od21 an21 od22 an22 od23 an23 od24 an24 od25 an25 od26 an26 od27 an27 : Option Addr} {sl1 sl2 sl3 sl4 sl5 sl6 sl7 sl8 sl9 sl10 sl11 sl12 sl13 sl14 sl15 sl16 sl17 sl18 sl19 sl20 sl21 sl22 sl23 sl24 sl25 sl26 sl27 : Array (Option Value)} {oc1 kV1 dc1 pm1 cd1 ct1 oc2 kV2 dc2 pm2 cd2 ct2 oc3 kV3 dc3 pm3 cd3 ct3 oc4 kV4 dc4 pm4 cd4 ct4 oc5 kV5 dc5 pm5 cd5 ct5 oc6 kV6 dc6 pm6 cd6 ct6 oc7 kV7 dc7 pm7 cd7 ct7 oc8 kV8 dc8 pm8 cd8 ct8 oc9 kV9 dc9 pm9 cd9 ct9 oc10 kV10 dc10 pm10 cd10 ct10 oc11 kV11 dc11 pm11 cd11 ct11 oc12 kV12 dc12 pm12 cd12 ct12 oc13 kV13 dc13 pm13 cd13 ct13 oc14 kV14 dc14 pm14 cd14 ct14 oc15 kV15 dc15 pm15 cd15 ct15 oc16 kV16 dc16 pm16 cd16 ct16 oc17 kV17 dc17 pm17 cd17 ct17 oc18 kV18 dc18 pm18 cd18 ct18 oc19 kV19 dc19 pm19 cd19 ct19 oc20 kV20 dc20 pm20 cd20 ct20 oc21 kV21 dc21 pm21 cd21 ct21 oc22 kV22 dc22 pm22 cd22 ct22 oc23 kV23 dc23 pm23 cd23 ct23 oc24 kV24 dc24 pm24 cd24 ct24 oc25 kV25 dc25 pm25 cd25 ct25 oc26 kV26 dc26 pm26 cd26 ct26 oc27 kV27 dc27 pm27 cd27 ct27 : Value}
    {tg1 : Tok} {ag2 : Addr} {tg2_0 tg2_1 tg2_2 tg2_3 tg2_4 tg2_5 tg2_6 : Tok} {ng2 : Nat} {slg2 : Array (Option Value)}
    (a1 : PySem.W.nsIn K mainGlobals "write_number" = some (some (.ref f1))) (l1 : K.lookup f1 = some ⟨oc1, od1, .func (PySem.W.fnOf "write_number" "write_number" (defArgs sWriteNumber) (defBody sWriteNumber) (defScope sWriteNumber) .none kV1 dc1 pm1 an1 cd1 ct1), sl1⟩) (c1 : PySem.W.codeIn K cd1 "write_number" = true) (k1 : PySem.W.keepIn K (.ref f1) = true)
    (a2 : PySem.W.nsIn K mainGlobals "read_number" = some (some (.ref f2))) (l2 : K.lookup f2 = some ⟨oc2, od2, .func (PySem.W.fnOf "read_number" "read_number" (defArgs sReadNumber) (defBody sReadNumber) (defScope sReadNumber) .none kV2 dc2 pm2 an2 cd2 ct2), sl2⟩) (c2 : PySem.W.codeIn K cd2 "read_number" = true) (k2 : PySem.W.keepIn K (.ref f2) = true)
    (a3 : PySem.W.nsIn K mainGlobals "write_word" = some (some (.ref f3))) (l3 : K.lookup f3 = some ⟨oc3, od3, .func (PySem.W.fnOf "write_word" "write_word" (defArgs sWriteWord) (defBody sWriteWord) (defScope sWriteWord) .none kV3 dc3 pm3 an3 cd3 ct3), sl3⟩) (c3 : PySem.W.codeIn K cd3 "write_word" = true) (k3 : PySem.W.keepIn K (.ref f3) = true)
    (a4 : PySem.W.nsIn K mainGlobals "read_word" = some (some (.ref f4))) (l4 : K.lookup f4 = some ⟨oc4, od4, .func (PySem.W.fnOf "read_word" "read_word" (defArgs sReadWord) (defBody sReadWord) (defScope sReadWord) .none kV4 dc4 pm4 an4 cd4 ct4), sl4⟩) (c4 : PySem.W.codeIn K cd4 "read_word" = true) (k4 : PySem.W.keepIn K (.ref f4) = true)
    (a5 : PySem.W.nsIn K mainGlobals "check_of" = some (some (.ref f5))) (l5 : K.lookup f5 = some ⟨oc5, od5, .func (PySem.W.fnOf "check_of" "check_of" (defArgs sCheckOf) (defBody sCheckOf) (defScope sCheckOf) .none kV5 dc5 pm5 an5 cd5 ct5), sl5⟩) (c5 : PySem.W.codeIn K cd5 "check_of" = true) (k5 : PySem.W.keepIn K (.ref f5) = true)
    (a6 : PySem.W.nsIn K mainGlobals "record" = some (some (.ref f6))) (l6 : K.lookup f6 = some ⟨oc6, od6, .func (PySem.W.fnOf "record" "record" (defArgs sRecord) (defBody sRecord) (defScope sRecord) .none kV6 dc6 pm6 an6 cd6 ct6), sl6⟩) (c6 : PySem.W.codeIn K cd6 "record" = true) (k6 : PySem.W.keepIn K (.ref f6) = true)
    (a7 : PySem.W.nsIn K mainGlobals "read_record" = some (some (.ref f7))) (l7 : K.lookup f7 = some ⟨oc7, od7, .func (PySem.W.fnOf "read_record" "read_record" (defArgs sReadRecord) (defBody sReadRecord) (defScope sReadRecord) .none kV7 dc7 pm7 an7 cd7 ct7), sl7⟩) (c7 : PySem.W.codeIn K cd7 "read_record" = true) (k7 : PySem.W.keepIn K (.ref f7) = true)
    (a8 : PySem.W.nsIn K mainGlobals "appended" = some (some (.ref f8))) (l8 : K.lookup f8 = some ⟨oc8, od8, .func (PySem.W.fnOf "appended" "appended" (defArgs sAppended) (defBody sAppended) (defScope sAppended) .none kV8 dc8 pm8 an8 cd8 ct8), sl8⟩) (c8 : PySem.W.codeIn K cd8 "appended" = true) (k8 : PySem.W.keepIn K (.ref f8) = true)
    (a9 : PySem.W.nsIn K mainGlobals "_law_cell" = some (some (.ref f9))) (l9 : K.lookup f9 = some ⟨oc9, od9, .func (PySem.W.fnOf "_law_cell" "_law_cell" (defArgs sLawCell) (defBody sLawCell) (defScope sLawCell) .none kV9 dc9 pm9 an9 cd9 ct9), sl9⟩) (c9 : PySem.W.codeIn K cd9 "_law_cell" = true) (k9 : PySem.W.keepIn K (.ref f9) = true)
    (a10 : PySem.W.nsIn K mainGlobals "_law_digits" = some (some (.ref f10))) (l10 : K.lookup f10 = some ⟨oc10, od10, .func (PySem.W.fnOf "_law_digits" "_law_digits" (defArgs sLawDigits) (defBody sLawDigits) (defScope sLawDigits) .none kV10 dc10 pm10 an10 cd10 ct10), sl10⟩) (c10 : PySem.W.codeIn K cd10 "_law_digits" = true) (k10 : PySem.W.keepIn K (.ref f10) = true)
    (a11 : PySem.W.nsIn K mainGlobals "_law_draw" = some (some (.ref f11))) (l11 : K.lookup f11 = some ⟨oc11, od11, .func (PySem.W.fnOf "_law_draw" "_law_draw" (defArgs sLawDraw) (defBody sLawDraw) (defScope sLawDraw) .none kV11 dc11 pm11 an11 cd11 ct11), sl11⟩) (c11 : PySem.W.codeIn K cd11 "_law_draw" = true) (k11 : PySem.W.keepIn K (.ref f11) = true)
    (a12 : PySem.W.nsIn K mainGlobals "_law_pick" = some (some (.ref f12))) (l12 : K.lookup f12 = some ⟨oc12, od12, .func (PySem.W.fnOf "_law_pick" "_law_pick" (defArgs sLawPick) (defBody sLawPick) (defScope sLawPick) .none kV12 dc12 pm12 an12 cd12 ct12), sl12⟩) (c12 : PySem.W.codeIn K cd12 "_law_pick" = true) (k12 : PySem.W.keepIn K (.ref f12) = true)
    (a13 : PySem.W.nsIn K mainGlobals "_law_same" = some (some (.ref f13))) (l13 : K.lookup f13 = some ⟨oc13, od13, .func (PySem.W.fnOf "_law_same" "_law_same" (defArgs sLawSame) (defBody sLawSame) (defScope sLawSame) .none kV13 dc13 pm13 an13 cd13 ct13), sl13⟩) (c13 : PySem.W.codeIn K cd13 "_law_same" = true) (k13 : PySem.W.keepIn K (.ref f13) = true)
    (a14 : PySem.W.nsIn K mainGlobals "_law_number" = some (some (.ref f14))) (l14 : K.lookup f14 = some ⟨oc14, od14, .func (PySem.W.fnOf "_law_number" "_law_number" (defArgs sLawNumber) (defBody sLawNumber) (defScope sLawNumber) .none kV14 dc14 pm14 an14 cd14 ct14), sl14⟩) (c14 : PySem.W.codeIn K cd14 "_law_number" = true) (k14 : PySem.W.keepIn K (.ref f14) = true)
    (a15 : PySem.W.nsIn K mainGlobals "_law_letters" = some (some (.ref f15))) (l15 : K.lookup f15 = some ⟨oc15, od15, .func (PySem.W.fnOf "_law_letters" "_law_letters" (defArgs sLawLetters) (defBody sLawLetters) (defScope sLawLetters) .none kV15 dc15 pm15 an15 cd15 ct15), sl15⟩) (c15 : PySem.W.codeIn K cd15 "_law_letters" = true) (k15 : PySem.W.keepIn K (.ref f15) = true)
    (a16 : PySem.W.nsIn K mainGlobals "_law_kinds" = some (some (.ref f16))) (l16 : K.lookup f16 = some ⟨oc16, od16, .func (PySem.W.fnOf "_law_kinds" "_law_kinds" (defArgs sLawKinds) (defBody sLawKinds) (defScope sLawKinds) .none kV16 dc16 pm16 an16 cd16 ct16), sl16⟩) (c16 : PySem.W.codeIn K cd16 "_law_kinds" = true) (k16 : PySem.W.keepIn K (.ref f16) = true)
    (a17 : PySem.W.nsIn K mainGlobals "_law_check" = some (some (.ref f17))) (l17 : K.lookup f17 = some ⟨oc17, od17, .func (PySem.W.fnOf "_law_check" "_law_check" (defArgs sLawCheck) (defBody sLawCheck) (defScope sLawCheck) .none kV17 dc17 pm17 an17 cd17 ct17), sl17⟩) (c17 : PySem.W.codeIn K cd17 "_law_check" = true) (k17 : PySem.W.keepIn K (.ref f17) = true)
    (a18 : PySem.W.nsIn K mainGlobals "_law_sealed" = some (some (.ref f18))) (l18 : K.lookup f18 = some ⟨oc18, od18, .func (PySem.W.fnOf "_law_sealed" "_law_sealed" (defArgs sLawSealed) (defBody sLawSealed) (defScope sLawSealed) .none kV18 dc18 pm18 an18 cd18 ct18), sl18⟩) (c18 : PySem.W.codeIn K cd18 "_law_sealed" = true) (k18 : PySem.W.keepIn K (.ref f18) = true)
    (a19 : PySem.W.nsIn K mainGlobals "_law_record" = some (some (.ref f19))) (l19 : K.lookup f19 = some ⟨oc19, od19, .func (PySem.W.fnOf "_law_record" "_law_record" (defArgs sLawRecord) (defBody sLawRecord) (defScope sLawRecord) .none kV19 dc19 pm19 an19 cd19 ct19), sl19⟩) (c19 : PySem.W.codeIn K cd19 "_law_record" = true) (k19 : PySem.W.keepIn K (.ref f19) = true)
    (a20 : PySem.W.nsIn K mainGlobals "_law_read_number" = some (some (.ref f20))) (l20 : K.lookup f20 = some ⟨oc20, od20, .func (PySem.W.fnOf "_law_read_number" "_law_read_number" (defArgs sLawReadNumber) (defBody sLawReadNumber) (defScope sLawReadNumber) .none kV20 dc20 pm20 an20 cd20 ct20), sl20⟩) (c20 : PySem.W.codeIn K cd20 "_law_read_number" = true) (k20 : PySem.W.keepIn K (.ref f20) = true)
    (a21 : PySem.W.nsIn K mainGlobals "_law_read_word" = some (some (.ref f21))) (l21 : K.lookup f21 = some ⟨oc21, od21, .func (PySem.W.fnOf "_law_read_word" "_law_read_word" (defArgs sLawReadWord) (defBody sLawReadWord) (defScope sLawReadWord) .none kV21 dc21 pm21 an21 cd21 ct21), sl21⟩) (c21 : PySem.W.codeIn K cd21 "_law_read_word" = true) (k21 : PySem.W.keepIn K (.ref f21) = true)
    (a22 : PySem.W.nsIn K mainGlobals "_law_read_record" = some (some (.ref f22))) (l22 : K.lookup f22 = some ⟨oc22, od22, .func (PySem.W.fnOf "_law_read_record" "_law_read_record" (defArgs sLawReadRecord) (defBody sLawReadRecord) (defScope sLawReadRecord) .none kV22 dc22 pm22 an22 cd22 ct22), sl22⟩) (c22 : PySem.W.codeIn K cd22 "_law_read_record" = true) (k22 : PySem.W.keepIn K (.ref f22) = true)
    (a23 : PySem.W.nsIn K mainGlobals "_law_drawn_number" = some (some (.ref f23))) (l23 : K.lookup f23 = some ⟨oc23, od23, .func (PySem.W.fnOf "_law_drawn_number" "_law_drawn_number" (defArgs sLawDrawnNumber) (defBody sLawDrawnNumber) (defScope sLawDrawnNumber) .none kV23 dc23 pm23 an23 cd23 ct23), sl23⟩) (c23 : PySem.W.codeIn K cd23 "_law_drawn_number" = true) (k23 : PySem.W.keepIn K (.ref f23) = true)
    (a24 : PySem.W.nsIn K mainGlobals "_law_drawn_word" = some (some (.ref f24))) (l24 : K.lookup f24 = some ⟨oc24, od24, .func (PySem.W.fnOf "_law_drawn_word" "_law_drawn_word" (defArgs sLawDrawnWord) (defBody sLawDrawnWord) (defScope sLawDrawnWord) .none kV24 dc24 pm24 an24 cd24 ct24), sl24⟩) (c24 : PySem.W.codeIn K cd24 "_law_drawn_word" = true) (k24 : PySem.W.keepIn K (.ref f24) = true)
    (a25 : PySem.W.nsIn K mainGlobals "_law_pieces_read" = some (some (.ref f25))) (l25 : K.lookup f25 = some ⟨oc25, od25, .func (PySem.W.fnOf "_law_pieces_read" "_law_pieces_read" (defArgs sLawPiecesRead) (defBody sLawPiecesRead) (defScope sLawPiecesRead) .none kV25 dc25 pm25 an25 cd25 ct25), sl25⟩) (c25 : PySem.W.codeIn K cd25 "_law_pieces_read" = true) (k25 : PySem.W.keepIn K (.ref f25) = true)
    (a26 : PySem.W.nsIn K mainGlobals "_law_spoilt" = some (some (.ref f26))) (l26 : K.lookup f26 = some ⟨oc26, od26, .func (PySem.W.fnOf "_law_spoilt" "_law_spoilt" (defArgs sLawSpoilt) (defBody sLawSpoilt) (defScope sLawSpoilt) .none kV26 dc26 pm26 an26 cd26 ct26), sl26⟩) (c26 : PySem.W.codeIn K cd26 "_law_spoilt" = true) (k26 : PySem.W.keepIn K (.ref f26) = true)
    (a27 : PySem.W.nsIn K mainGlobals "law" = some (some (.ref f27))) (l27 : K.lookup f27 = some ⟨oc27, od27, .func (PySem.W.fnOf "law" "law" (defArgs sLaw) (defBody sLaw) (defScope sLaw) .none kV27 dc27 pm27 an27 cd27 ct27), sl27⟩) (c27 : PySem.W.codeIn K cd27 "law" = true) (k27 : PySem.W.keepIn K (.ref f27) = true)
    (z1 : PySem.W.nsIn K mainGlobals "all" = some none)
    (z2 : PySem.W.nsIn K mainGlobals "bool" = some none)
    (z3 : PySem.W.nsIn K mainGlobals "int" = some none)
    (z4 : PySem.W.nsIn K mainGlobals "isinstance" = some none)
    (z5 : PySem.W.nsIn K mainGlobals "len" = some none)
    (z6 : PySem.W.nsIn K mainGlobals "list" = some none)
    (z7 : PySem.W.nsIn K mainGlobals "range" = some none)
    (z8 : PySem.W.nsIn K mainGlobals "repr" = some none)
    (z9 : PySem.W.nsIn K mainGlobals "str" = some none)
    (z10 : PySem.W.nsIn K mainGlobals "tuple" = some none)
    (g1 : PySem.W.nsIn K mainGlobals "LETTERS" = some (some (.str "abcdefghijklmnopqrstuvwxyz" tg1)))
    (g2 : PySem.W.nsIn K mainGlobals "KINDS" = some (some (.ref ag2))) (gl2 : K.lookup ag2 = some ⟨.type "tuple", none, .seq #[.str "cash" tg2_0, .str "play" tg2_1, .str "price" tg2_2, .str "show" tg2_3, .str "sell" tg2_4, .str "back" tg2_5, .str "close" tg2_6] ng2, slg2⟩)
    : ∃ fd : FuncData, (∀ (s : Shared) (v : Value), BindsTo s fd ⟨[v], []⟩ [("script", v)]) ∧ ∀ base : Heap, K.In base → base.Ns mainGlobals mg → FnOk l.prog w K mg base CX0 7 fa fd ["script"] (spLaw K) := by
  have F1 := fun_mk (st := sWriteNumber) l1 c1 k1
  have D1 : DefAt K mg "write_number" sWriteNumber pWriteNumber := ⟨f1, _, F1, PySem.W.mg_of X G a1, fun s us hl => match us, hl with | [_], _ => .of_eq rfl⟩
  have F2 := fun_mk (st := sReadNumber) l2 c2 k2
  have D2 : DefAt K mg "read_number" sReadNumber pReadNumber := ⟨f2, _, F2, PySem.W.mg_of X G a2, fun s us hl => match us, hl with | [_, _], _ => .of_eq rfl⟩
  have F3 := fun_mk (st := sWriteWord) l3 c3 k3
  have D3 : DefAt K mg "write_word" sWriteWord pWriteWord := ⟨f3, _, F3, PySem.W.mg_of X G a3, fun s us hl => match us, hl with | [_], _ => .of_eq rfl⟩
  have F4 := fun_mk (st := sReadWord) l4 c4 k4
  have D4 : DefAt K mg "read_word" sReadWord pReadWord := ⟨f4, _, F4, PySem.W.mg_of X G a4, fun s us hl => match us, hl with | [_, _], _ => .of_eq rfl⟩
  have F5 := fun_mk (st := sCheckOf) l5 c5 k5
  have D5 : DefAt K mg "check_of" sCheckOf pCheckOf := ⟨f5, _, F5, PySem.W.mg_of X G a5, fun s us hl => match us, hl with | [_], _ => .of_eq rfl⟩
  have F6 := fun_mk (st := sRecord) l6 c6 k6
  have D6 : DefAt K mg "record" sRecord pRecord := ⟨f6, _, F6, PySem.W.mg_of X G a6, fun s us hl => match us, hl with | [_], _ => .of_eq rfl⟩
  have F7 := fun_mk (st := sReadRecord) l7 c7 k7
  have D7 : DefAt K mg "read_record" sReadRecord pReadRecord := ⟨f7, _, F7, PySem.W.mg_of X G a7, fun s us hl => match us, hl with | [_, _], _ => .of_eq rfl⟩
  have F8 := fun_mk (st := sAppended) l8 c8 k8
  have D8 : DefAt K mg "appended" sAppended pAppended := ⟨f8, _, F8, PySem.W.mg_of X G a8, fun s us hl => match us, hl with | [_, _, _], _ => .of_eq rfl⟩
  have F9 := fun_mk (st := sLawCell) l9 c9 k9
  have D9 : DefAt K mg "_law_cell" sLawCell pLawCell := ⟨f9, _, F9, PySem.W.mg_of X G a9, fun s us hl => match us, hl with | [_, _], _ => .of_eq rfl⟩
  have F10 := fun_mk (st := sLawDigits) l10 c10 k10
  have D10 : DefAt K mg "_law_digits" sLawDigits pLawDigits := ⟨f10, _, F10, PySem.W.mg_of X G a10, fun s us hl => match us, hl with | [_, _, _], _ => .of_eq rfl⟩
  have F11 := fun_mk (st := sLawDraw) l11 c11 k11
  have D11 : DefAt K mg "_law_draw" sLawDraw pLawDraw := ⟨f11, _, F11, PySem.W.mg_of X G a11, fun s us hl => match us, hl with | [_, _], _ => .of_eq rfl⟩
  have F12 := fun_mk (st := sLawPick) l12 c12 k12
  have D12 : DefAt K mg "_law_pick" sLawPick pLawPick := ⟨f12, _, F12, PySem.W.mg_of X G a12, fun s us hl => match us, hl with | [_, _], _ => .of_eq rfl⟩
  have F13 := fun_mk (st := sLawSame) l13 c13 k13
  have D13 : DefAt K mg "_law_same" sLawSame pLawSame := ⟨f13, _, F13, PySem.W.mg_of X G a13, fun s us hl => match us, hl with | [_, _], _ => .of_eq rfl⟩
  have F14 := fun_mk (st := sLawNumber) l14 c14 k14
  have D14 : DefAt K mg "_law_number" sLawNumber pLawNumber := ⟨f14, _, F14, PySem.W.mg_of X G a14, fun s us hl => match us, hl with | [_], _ => .of_eq rfl⟩
  have F15 := fun_mk (st := sLawLetters) l15 c15 k15
  have D15 : DefAt K mg "_law_letters" sLawLetters pLawLetters := ⟨f15, _, F15, PySem.W.mg_of X G a15, fun s us hl => match us, hl with | [_], _ => .of_eq rfl⟩
  have F16 := fun_mk (st := sLawKinds) l16 c16 k16
  have D16 : DefAt K mg "_law_kinds" sLawKinds pLawKinds := ⟨f16, _, F16, PySem.W.mg_of X G a16, fun s us hl => match us, hl with | [], _ => .of_eq rfl⟩
  have F17 := fun_mk (st := sLawCheck) l17 c17 k17
  have D17 : DefAt K mg "_law_check" sLawCheck pLawCheck := ⟨f17, _, F17, PySem.W.mg_of X G a17, fun s us hl => match us, hl with | [_], _ => .of_eq rfl⟩
  have F18 := fun_mk (st := sLawSealed) l18 c18 k18
  have D18 : DefAt K mg "_law_sealed" sLawSealed pLawSealed := ⟨f18, _, F18, PySem.W.mg_of X G a18, fun s us hl => match us, hl with | [_], _ => .of_eq rfl⟩
  have F19 := fun_mk (st := sLawRecord) l19 c19 k19
  have D19 : DefAt K mg "_law_record" sLawRecord pLawRecord := ⟨f19, _, F19, PySem.W.mg_of X G a19, fun s us hl => match us, hl with | [_], _ => .of_eq rfl⟩
  have F20 := fun_mk (st := sLawReadNumber) l20 c20 k20
  have D20 : DefAt K mg "_law_read_number" sLawReadNumber pLawReadNumber := ⟨f20, _, F20, PySem.W.mg_of X G a20, fun s us hl => match us, hl with | [_, _], _ => .of_eq rfl⟩
  have F21 := fun_mk (st := sLawReadWord) l21 c21 k21
  have D21 : DefAt K mg "_law_read_word" sLawReadWord pLawReadWord := ⟨f21, _, F21, PySem.W.mg_of X G a21, fun s us hl => match us, hl with | [_, _], _ => .of_eq rfl⟩
  have F22 := fun_mk (st := sLawReadRecord) l22 c22 k22
  have D22 : DefAt K mg "_law_read_record" sLawReadRecord pLawReadRecord := ⟨f22, _, F22, PySem.W.mg_of X G a22, fun s us hl => match us, hl with | [_, _], _ => .of_eq rfl⟩
  have F23 := fun_mk (st := sLawDrawnNumber) l23 c23 k23
  have D23 : DefAt K mg "_law_drawn_number" sLawDrawnNumber pLawDrawnNumber := ⟨f23, _, F23, PySem.W.mg_of X G a23, fun s us hl => match us, hl with | [_], _ => .of_eq rfl⟩
  have F24 := fun_mk (st := sLawDrawnWord) l24 c24 k24
  have D24 : DefAt K mg "_law_drawn_word" sLawDrawnWord pLawDrawnWord := ⟨f24, _, F24, PySem.W.mg_of X G a24, fun s us hl => match us, hl with | [_], _ => .of_eq rfl⟩
  have F25 := fun_mk (st := sLawPiecesRead) l25 c25 k25
  have D25 : DefAt K mg "_law_pieces_read" sLawPiecesRead pLawPiecesRead := ⟨f25, _, F25, PySem.W.mg_of X G a25, fun s us hl => match us, hl with | [_, _, _], _ => .of_eq rfl⟩
  have F26 := fun_mk (st := sLawSpoilt) l26 c26 k26
  have D26 : DefAt K mg "_law_spoilt" sLawSpoilt pLawSpoilt := ⟨f26, _, F26, PySem.W.mg_of X G a26, fun s us hl => match us, hl with | [_, _, _], _ => .of_eq rfl⟩
  have F27 := fun_mk (st := sLaw) l27 c27 k27
  have D27 : DefAt K mg "law" sLaw pLaw := ⟨f27, _, F27, PySem.W.mg_of X G a27, fun s us hl => match us, hl with | [_], _ => .of_eq rfl⟩
  have T : Blt mg := ⟨PySem.W.mg_none_of X G z1, PySem.W.mg_none_of X G z2, PySem.W.mg_none_of X G z3, PySem.W.mg_none_of X G z4, PySem.W.mg_none_of X G z5, PySem.W.mg_none_of X G z6, PySem.W.mg_none_of X G z7, PySem.W.mg_none_of X G z8, PySem.W.mg_none_of X G z9, PySem.W.mg_none_of X G z10⟩
  have Gs : Glb K mg := ⟨⟨tg1, PySem.W.mg_of X G g1⟩, ⟨ag2, _, _, _, PySem.W.mg_of X G g2, gl2, rfl, rfl, rfl, (show (7 : Nat) ≤ sizeLine by decide), .cons ⟨_, rfl⟩ (.cons ⟨_, rfl⟩ (.cons ⟨_, rfl⟩ (.cons ⟨_, rfl⟩ (.cons ⟨_, rfl⟩ (.cons ⟨_, rfl⟩ (.cons ⟨_, rfl⟩ (.nil)))))))⟩⟩
  have Ds : Defs K mg := ⟨D1, D2, D3, D4, D5, D6, D7, D8, D9, D10, D11, D12, D13, D14, D15, D16, D17, D18, D19, D20, D21, D22, D23, D24, D25, D26, D27⟩
  exact law_end Ds.dLaw hfa fun base f fd F hm => ok_law (P := l.prog) (w := w) (base := base) Ds T Gs F hm
theorem walk {l : PySem.W.OpenLaw} {q : Program} {loose : List Str} {XP : (Str → Option Value) → Heap → Prop} {YP : World → Heap → Prop} {d : DefRec} {K : Params → PySem.W.Frag} (hn : l.most = some 63) (hdf : d.params.defaults = [])
    (hY : ∀ (w : World) (h : Heap), YP w h → (K w.params).In h)
    (F : ∀ (w : World) (mg : Str → Option Value) (fa : Addr) (h : Heap), (K w.params).In h → h.Ns mainGlobals mg → mg d.name = some (.ref fa) →
      ∃ fd : FuncData, (∀ (s : Shared) (u : Value), BindsTo s fd ⟨[u], []⟩ [("script", u)]) ∧ ∀ base : Heap, (K w.params).In base → base.Ns mainGlobals mg → FnOk l.prog w (K w.params) mg base CX0 7 fa fd ["script"] (spLaw (K w.params))) :
    PySem.W.WalkO q loose XP YP l.row.toRowW d [] (fun f vs => PySem.call f vs) :=
  L2.walk_of (n := 63) (k := 7) (x := "script") (CX := fun _ => CX0) (sp := fun w => spLaw (K w.params)) hn (by decide) hdf ⟨rfl, by decide, by decide⟩ hY F (fun _ _ a ns hl _ hS => ⟨a, ns, rfl, hS, hl, fun _ => rfl⟩) fun _ _ _ _ _ z => z
end K90
open PySem PySem.W PyProof.Rows
set_option maxRecDepth 100000 in
set_option maxHeartbeats 0 in
theorem PySem.Challenge.cw_stagelands_k90_numbers_words_and_records_holds : PySem.Challenge.rw_stagelands_k90_numbers_words_and_records.Holds := by
  w_on; o_law; k_head; (case hw => w_witness2)
  k_fill
  refine K90.walk (l := PySem.Challenge.rw_stagelands_k90_numbers_words_and_records) rfl rfl (fun w h Y => PySem.W.kIn_of Y) ?F
  case F =>
    intro w mg fa h KX G hmg
    refine' K90.all_mk KX G hmg ?a1 ?l1 ?c1 ?k1 ?a2 ?l2 ?c2 ?k2 ?a3 ?l3 ?c3 ?k3 ?a4 ?l4 ?c4 ?k4 ?a5 ?l5 ?c5 ?k5 ?a6 ?l6 ?c6 ?k6 ?a7 ?l7 ?c7 ?k7 ?a8 ?l8 ?c8 ?k8 ?a9 ?l9 ?c9 ?k9 ?a10 ?l10 ?c10 ?k10 ?a11 ?l11 ?c11 ?k11 ?a12 ?l12 ?c12 ?k12 ?a13 ?l13 ?c13 ?k13 ?a14 ?l14 ?c14 ?k14 ?a15 ?l15 ?c15 ?k15 ?a16 ?l16 ?c16 ?k16 ?a17 ?l17 ?c17 ?k17 ?a18 ?l18 ?c18 ?k18 ?a19 ?l19 ?c19 ?k19 ?a20 ?l20 ?c20 ?k20 ?a21 ?l21 ?c21 ?k21 ?a22 ?l22 ?c22 ?k22 ?a23 ?l23 ?c23 ?k23 ?a24 ?l24 ?c24 ?k24 ?a25 ?l25 ?c25 ?k25 ?a26 ?l26 ?c26 ?k26 ?a27 ?l27 ?c27 ?k27 ?z1 ?z2 ?z3 ?z4 ?z5 ?z6 ?z7 ?z8 ?z9 ?z10 ?g1 ?g2 ?gl2
    (case a1 => k_is); (case l1 => k_is); (case c1 => k_is); (case k1 => k_is)
    (case a2 => k_is); (case l2 => k_is); (case c2 => k_is); (case k2 => k_is)
    (case a3 => k_is); (case l3 => k_is); (case c3 => k_is); (case k3 => k_is)
    (case a4 => k_is); (case l4 => k_is); (case c4 => k_is); (case k4 => k_is)
    (case a5 => k_is); (case l5 => k_is); (case c5 => k_is); (case k5 => k_is)
    (case a6 => k_is); (case l6 => k_is); (case c6 => k_is); (case k6 => k_is)
    (case a7 => k_is); (case l7 => k_is); (case c7 => k_is); (case k7 => k_is)
    (case a8 => k_is); (case l8 => k_is); (case c8 => k_is); (case k8 => k_is)
    (case a9 => k_is); (case l9 => k_is); (case c9 => k_is); (case k9 => k_is)
    (case a10 => k_is); (case l10 => k_is); (case c10 => k_is); (case k10 => k_is)
    (case a11 => k_is); (case l11 => k_is); (case c11 => k_is); (case k11 => k_is)
    (case a12 => k_is); (case l12 => k_is); (case c12 => k_is); (case k12 => k_is)
    (case a13 => k_is); (case l13 => k_is); (case c13 => k_is); (case k13 => k_is)
    (case a14 => k_is); (case l14 => k_is); (case c14 => k_is); (case k14 => k_is)
    (case a15 => k_is); (case l15 => k_is); (case c15 => k_is); (case k15 => k_is)
    (case a16 => k_is); (case l16 => k_is); (case c16 => k_is); (case k16 => k_is)
    (case a17 => k_is); (case l17 => k_is); (case c17 => k_is); (case k17 => k_is)
    (case a18 => k_is); (case l18 => k_is); (case c18 => k_is); (case k18 => k_is)
    (case a19 => k_is); (case l19 => k_is); (case c19 => k_is); (case k19 => k_is)
    (case a20 => k_is); (case l20 => k_is); (case c20 => k_is); (case k20 => k_is)
    (case a21 => k_is); (case l21 => k_is); (case c21 => k_is); (case k21 => k_is)
    (case a22 => k_is); (case l22 => k_is); (case c22 => k_is); (case k22 => k_is)
    (case a23 => k_is); (case l23 => k_is); (case c23 => k_is); (case k23 => k_is)
    (case a24 => k_is); (case l24 => k_is); (case c24 => k_is); (case k24 => k_is)
    (case a25 => k_is); (case l25 => k_is); (case c25 => k_is); (case k25 => k_is)
    (case a26 => k_is); (case l26 => k_is); (case c26 => k_is); (case k26 => k_is)
    (case a27 => k_is); (case l27 => k_is); (case c27 => k_is); (case k27 => k_is)
    (case z1 => k_is)
    (case z2 => k_is)
    (case z3 => k_is)
    (case z4 => k_is)
    (case z5 => k_is)
    (case z6 => k_is)
    (case z7 => k_is)
    (case z8 => k_is)
    (case z9 => k_is)
    (case z10 => k_is)
    (case g1 => k_is)
    (case g2 => k_is)
    (case gl2 => k_is)

