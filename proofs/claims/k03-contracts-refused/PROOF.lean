import PyProof.Rows.All
import Wide.All
import OpenK.AllK
import Wide.FinOn
import HandS.ForMost
import HandS.Wide
import HandS.IsInst
import HandS.TupAny
import HandS.DictComp
import HandS.Conv
import HandS.Deep
import HandS.FStr
import PyProof.StrBlock2
import HandS.More
import HandS.Text
import HandS.RaiseMore
import PyProof.FitsReplace
import KE.KSortTup
import HandS.Sort
import HandS.SortOrd
import HandS.SortRule
import HandS.Style
import HandS.DeepEq
import HandS.Flow
import HandS.ListEq
import PyProof.NeKinds
import HandS.Exc
import HandS.ExcOwn
import HandS.ExcIs
import HandS.WordsExc
import PySem.Challenge.RW_contractbook_k03_contracts_refused
set_option Elab.async false
set_option linter.all false
set_option maxRecDepth 100000
set_option maxHeartbeats 0
/-! The layer of pure data over the hand layer: tuples are values, the memory holds lists, dicts, objects. -/
namespace Mm
open PySem L2

/-- a datum: a tuple is a value -/
inductive D where
  | non | bl (b : Bool) | int (i : Int) | str (x : Str) | tup (ds : List D) | ref (a : Addr) | ty (n : String)

/-- a tuple's place: tracked; a written one of one or five items -/
def TupAt (K : PySem.W.Frag) (H : Hp) (a : Addr) (xs : List V) (n : Nat) : Prop := H a = some (.tup xs) ∨ ((n = 1 ∨ n = 5) ∧ SqT K H a xs)
mutual
def Rep (K : PySem.W.Frag) (H : Hp) : D → V → Prop
  | .non, v => v = .non
  | .bl b, v => v = .bl b
  | .int i, v => v = .int i
  | .str x, v => v = .str x
  | .tup ds, v => ∃ a xs, v = .ref a ∧ TupAt K H a xs ds.length ∧ Reps K H ds xs
  | .ref a, v => v = .ref a
  | .ty n, v => v = .ty n
def Reps (K : PySem.W.Frag) (H : Hp) : List D → List V → Prop
  | [], xs => xs = []
  | d :: ds, xs => ∃ x r, xs = x :: r ∧ Rep K H d x ∧ Reps K H ds r
end

/-- what stands at an address of the memory; frz: locked -/
inductive O where
  | lst (ds : List D) | dK (kvs : List (Key × D)) | dT (kvs : List (List Key × D)) | ins (C : Addr) (fs : List (Str × D)) | frz (o : O)
abbrev Mem := Addr → Option O
def mput (m : Mem) (a : Addr) (o : O) : Mem := fun b => if b = a then some o else m b
theorem mput_same {m : Mem} {a : Addr} {o : O} : mput m a o a = some o := by unfold mput; rw [if_pos rfl]
theorem mput_ne {m : Mem} {a b : Addr} {o : O} (h : b ≠ a) : mput m a o b = m b := by unfold mput; rw [if_neg h]
theorem mput_mput {m : Mem} {a : Addr} {o u : O} : mput (mput m a o) a u = mput m a u := by funext b; unfold mput; split <;> rfl
theorem mput_self {m : Mem} {a : Addr} {o : O} (h : m a = some o) : mput m a o = m := by
  funext b; unfold mput; split
  · rename_i e; rw [e, h]
  · rfl
theorem mput_comm {m : Mem} {a b : Addr} {o u : O} (h : a ≠ b) : mput (mput m a o) b u = mput (mput m b u) a o := by
  funext c; unfold mput; split <;> split <;> try rfl
  rename_i e1 e2; exact absurd (e2.symm.trans e1) h
theorem mput_new {m : Mem} {p a : Addr} {o u : O} (hp : m p = none) (h : m a = some u) : mput m p o a = some u := by
  rw [mput_ne]; exact h
  rintro rfl; rw [hp] at h; cases h
theorem ne_new {m : Mem} {p a : Addr} {u : O} (hp : m p = none) (h : m a = some u) : a ≠ p := by rintro rfl; rw [hp] at h; cases h

def KVs (K : PySem.W.Frag) (H : Hp) {κ : Type} : List (κ × D) → List (κ × V) → Prop := Paired fun p q => p.1 = q.1 ∧ Rep K H p.2 q.2
def RepO (K : PySem.W.Frag) (H : Hp) : O → HO → Prop
  | .lst ds, u => ∃ xs, u = .lst xs ∧ Reps K H ds xs
  | .dK kvs, u => ∃ xs, u = .dK xs ∧ KVs K H kvs xs
  | .dT kvs, u => ∃ xs, u = .dT xs ∧ KVs K H kvs xs
  | .ins C fs, u => ∃ dx xs, u = .ins C dx xs ∧ KVs K H fs xs
  | .frz o, u => ∃ ob v, u = .frz ob v ∧ RepO K H o v
def RM (K : PySem.W.Frag) (H : Hp) (m : Mem) : Prop := ∀ a o, m a = some o → ∃ u, H a = some u ∧ RepO K H o u
/-- no object that may be written stands there -/
def Nm (m : Mem) (a : Addr) : Prop := m a = none ∨ ∃ o, m a = some (.frz o)
/-- from (m, H) to (m', H') all that is no object of m's stays -/
def Step (m : Mem) (H : Hp) (m' : Mem) (H' : Hp) : Prop := ∀ a u, H a = some u → Nm m a → H' a = some u ∧ Nm m' a
def Sub (m m' : Mem) : Prop := ∀ a o, m a = some o → m' a = some o

section
variable {K : PySem.W.Frag} {H H' H1 : Hp} {m m' m1 : Mem}
theorem Step.refl : Step m H m H := fun _ _ h n => ⟨h, n⟩
theorem Step.trans (a : Step m H m1 H1) (b : Step m1 H1 m' H') : Step m H m' H' := fun x u h n => by
  obtain ⟨h1, n1⟩ := a x u h n
  exact b x u h1 n1
theorem Sub.refl : Sub m m := fun _ _ h => h
theorem Sub.trans (a : Sub m m1) (b : Sub m1 m') : Sub m m' := fun x o h => b x o (a x o h)
theorem Sub.nm (s : Sub m m') {a : Addr} (n : Nm m' a) : Nm m a := by
  cases e : m a with
  | none => exact .inl e
  | some o =>
    rcases n with n | ⟨o', n⟩
    · rw [s a o e] at n; cases n
    · rw [s a o e] at n; cases n; exact .inr ⟨_, e⟩
theorem RM.sub (r : RM K H m') (s : Sub m m') : RM K H m := fun a o h => r a o (s a o h)
theorem Step.sub (a : Step m H m' H') (s : Sub m1 m') : Step m H m1 H' := fun x u h n => by
  obtain ⟨h1, n1⟩ := a x u h n
  exact ⟨h1, s.nm n1⟩
theorem RM.out (r : RM K H m) {p : Addr} (h : H p = none) : m p = none := by
  cases e : m p with
  | none => rfl
  | some o => obtain ⟨u, h1, _⟩ := r p o e; rw [h] at h1; cases h1
theorem RM.nm_tup (r : RM K H m) {a : Addr} {xs : List V} (h : H a = some (.tup xs)) : Nm m a := by
  cases e : m a with
  | none => exact .inl e
  | some o =>
    obtain ⟨u, h1, h2⟩ := r a o e
    rw [h] at h1; cases h1
    cases o with
    | lst ds => obtain ⟨xs, z, _⟩ := h2; cases z
    | dK ds => obtain ⟨xs, z, _⟩ := h2; cases z
    | dT ds => obtain ⟨xs, z, _⟩ := h2; cases z
    | ins C ds => obtain ⟨dx, xs, z, _⟩ := h2; cases z
    | frz o => exact .inr ⟨_, e⟩
theorem RM.nm_frz (r : RM K H m) {a : Addr} {ob : Obj} {v : HO} (h : H a = some (.frz ob v)) : Nm m a := by
  cases e : m a with
  | none => exact .inl e
  | some o =>
    obtain ⟨u, h1, h2⟩ := r a o e
    rw [h] at h1; cases h1
    cases o with
    | lst ds => obtain ⟨xs, z, _⟩ := h2; cases z
    | dK ds => obtain ⟨xs, z, _⟩ := h2; cases z
    | dT ds => obtain ⟨xs, z, _⟩ := h2; cases z
    | ins C ds => obtain ⟨dx, xs, z, _⟩ := h2; cases z
    | frz o => exact .inr ⟨_, e⟩
/-- tuples stay -/
def TupS (K : PySem.W.Frag) (H H' : Hp) : Prop := ∀ a xs n, TupAt K H a xs n → TupAt K H' a xs n
theorem TupAt.sq {a : Addr} {xs : List V} {n : Nat} (h : TupAt K H a xs n) : SqT K H a xs := h.elim (fun z => .inl (.inl z)) fun z => z.2
theorem TupAt.of {a : Addr} {xs : List V} {n : Nat} (h : H a = some (.tup xs)) : TupAt K H a xs n := .inl h
theorem Step.tups (r : RM K H m) (s : Step m H m' H') : TupS K H H' := fun a xs n h => by
  rcases h with h | ⟨z, h⟩
  · exact .inl (s a _ h (r.nm_tup h)).1
  refine .inr ⟨z, ?_⟩
  rcases h with (h | ⟨ob, h⟩) | h
  · exact .inl (.inl (s a _ h (r.nm_tup h)).1)
  · exact .inl (.inr ⟨ob, (s a _ h (r.nm_frz h)).1⟩)
  · exact .inr h
mutual
theorem Rep.stay (t : TupS K H H') : ∀ {d : D} {v : V}, Rep K H d v → Rep K H' d v
  | .non, _, h => by unfold Rep at h ⊢; exact h
  | .bl _, _, h => by unfold Rep at h ⊢; exact h
  | .int _, _, h => by unfold Rep at h ⊢; exact h
  | .str _, _, h => by unfold Rep at h ⊢; exact h
  | .ref _, _, h => by unfold Rep at h ⊢; exact h
  | .ty _, _, h => by unfold Rep at h ⊢; exact h
  | .tup ds, _, h => by
    unfold Rep at h ⊢
    obtain ⟨a, xs, e, s, r⟩ := h
    exact ⟨a, xs, e, t a xs _ s, Reps.stay t r⟩
theorem Reps.stay (t : TupS K H H') : ∀ {ds : List D} {vs : List V}, Reps K H ds vs → Reps K H' ds vs
  | [], _, h => by unfold Reps at h ⊢; exact h
  | d :: ds, _, h => by
    unfold Reps at h ⊢
    obtain ⟨x, r, e, h1, h2⟩ := h
    exact ⟨x, r, e, Rep.stay t h1, Reps.stay t h2⟩
end
theorem KVs.stay (t : TupS K H H') {κ : Type} : ∀ {a : List (κ × D)} {b : List (κ × V)}, KVs K H a b → KVs K H' a b
  | _, _, .nil => .nil
  | _, _, .cons h r => .cons ⟨h.1, h.2.stay t⟩ (KVs.stay t r)
theorem RepO.stay (t : TupS K H H') : ∀ {o : O} {u : HO}, RepO K H o u → RepO K H' o u
  | .lst _, _, h => by obtain ⟨xs, e, r⟩ := h; exact ⟨xs, e, r.stay t⟩
  | .dK _, _, h => by obtain ⟨xs, e, r⟩ := h; exact ⟨xs, e, r.stay t⟩
  | .dT _, _, h => by obtain ⟨xs, e, r⟩ := h; exact ⟨xs, e, r.stay t⟩
  | .ins _ _, _, h => by obtain ⟨dx, xs, e, r⟩ := h; exact ⟨dx, xs, e, r.stay t⟩
  | .frz _, _, h => by obtain ⟨ob, v, e, r⟩ := h; exact ⟨ob, v, e, r.stay t⟩

/-! ### representation, by forms -/
theorem Rep.bl_iff {b : Bool} {v : V} : Rep K H (.bl b) v ↔ v = .bl b := by unfold Rep; exact Iff.rfl
theorem Rep.int_iff {b : Int} {v : V} : Rep K H (.int b) v ↔ v = .int b := by unfold Rep; exact Iff.rfl
theorem Rep.str_iff {b : Str} {v : V} : Rep K H (.str b) v ↔ v = .str b := by unfold Rep; exact Iff.rfl
theorem Rep.non_iff {v : V} : Rep K H .non v ↔ v = .non := by unfold Rep; exact Iff.rfl
theorem Rep.ref_iff {b : Addr} {v : V} : Rep K H (.ref b) v ↔ v = .ref b := by unfold Rep; exact Iff.rfl
theorem Rep.ty_iff {b : String} {v : V} : Rep K H (.ty b) v ↔ v = .ty b := by unfold Rep; exact Iff.rfl
theorem Rep.tup_iff {ds : List D} {v : V} : Rep K H (.tup ds) v ↔ ∃ a xs, v = .ref a ∧ TupAt K H a xs ds.length ∧ Reps K H ds xs := by unfold Rep; exact Iff.rfl
theorem Rep.bl {b : Bool} : Rep K H (.bl b) (.bl b) := Rep.bl_iff.mpr rfl
theorem Rep.int {b : Int} : Rep K H (.int b) (.int b) := Rep.int_iff.mpr rfl
theorem Rep.str {b : Str} : Rep K H (.str b) (.str b) := Rep.str_iff.mpr rfl
theorem Rep.non : Rep K H .non .non := Rep.non_iff.mpr rfl
theorem Rep.ref {b : Addr} : Rep K H (.ref b) (.ref b) := Rep.ref_iff.mpr rfl
theorem Rep.ty {b : String} : Rep K H (.ty b) (.ty b) := Rep.ty_iff.mpr rfl
theorem Reps.nil_iff {vs : List V} : Reps K H [] vs ↔ vs = [] := by unfold Reps; exact Iff.rfl
theorem Reps.cons_iff {d : D} {ds : List D} {vs : List V} : Reps K H (d :: ds) vs ↔ ∃ x r, vs = x :: r ∧ Rep K H d x ∧ Reps K H ds r := by
  conv => lhs; unfold Reps
theorem Reps.nil : Reps K H [] [] := Reps.nil_iff.mpr rfl
theorem Reps.cons {d : D} {ds : List D} {v : V} {vs : List V} (h : Rep K H d v) (r : Reps K H ds vs) : Reps K H (d :: ds) (v :: vs) := Reps.cons_iff.mpr ⟨v, vs, rfl, h, r⟩
theorem Reps.length : ∀ {ds : List D} {vs : List V}, Reps K H ds vs → ds.length = vs.length
  | [], _, h => by rw [Reps.nil_iff.mp h]; rfl
  | d :: ds, _, h => by
    obtain ⟨x, r, e, _, h2⟩ := Reps.cons_iff.mp h
    subst e
    simp [Reps.length h2]
theorem Reps.get : ∀ {ds : List D} {vs : List V} {i : Nat} {d : D}, Reps K H ds vs → ds[i]? = some d → ∃ v, vs[i]? = some v ∧ Rep K H d v
  | [], _, _, _, _, e => by simp at e
  | x :: ds, _, i, d, h, e => by
    obtain ⟨v, r, e2, h1, h2⟩ := Reps.cons_iff.mp h
    subst e2
    cases i with
    | zero =>
      have : x = d := by simpa using e
      subst this; exact ⟨v, by simp, h1⟩
    | succ i =>
      obtain ⟨v', a, b⟩ := Reps.get (i := i) (d := d) h2 (by simpa using e)
      exact ⟨v', by simpa using a, b⟩
theorem Reps.append : ∀ {ds es : List D} {vs ws : List V}, Reps K H ds vs → Reps K H es ws → Reps K H (ds ++ es) (vs ++ ws)
  | [], _, _, _, h, k => by rw [Reps.nil_iff.mp h]; exact k
  | x :: ds, es, _, ws, h, k => by
    obtain ⟨v, r, e2, h1, h2⟩ := Reps.cons_iff.mp h
    subst e2
    exact Reps.cons h1 (Reps.append h2 k)
theorem Reps.take : ∀ {ds : List D} {vs : List V} (n : Nat), Reps K H ds vs → Reps K H (ds.take n) (vs.take n)
  | [], _, _, h => by rw [Reps.nil_iff.mp h]; simp; exact Reps.nil
  | x :: ds, _, n, h => by
    obtain ⟨v, r, e2, h1, h2⟩ := Reps.cons_iff.mp h
    subst e2
    cases n with
    | zero => exact Reps.nil
    | succ n => exact Reps.cons h1 (Reps.take n h2)
theorem Reps.drop : ∀ {ds : List D} {vs : List V} (n : Nat), Reps K H ds vs → Reps K H (ds.drop n) (vs.drop n)
  | [], _, _, h => by rw [Reps.nil_iff.mp h]; simp; exact Reps.nil
  | x :: ds, _, n, h => by
    obtain ⟨v, r, e2, h1, h2⟩ := Reps.cons_iff.mp h
    subst e2
    cases n with
    | zero => exact Reps.cons h1 h2
    | succ n => exact Reps.drop n h2
theorem Reps.set {d : D} {v : V} (hd : Rep K H d v) : ∀ {ds : List D} {vs : List V} (n : Nat), Reps K H ds vs → Reps K H (ds.set n d) (vs.set n v)
  | [], _, _, h => by rw [Reps.nil_iff.mp h]; simp; exact Reps.nil
  | x :: ds, _, n, h => by
    obtain ⟨v, r, e2, h1, h2⟩ := Reps.cons_iff.mp h
    subst e2
    cases n with
    | zero => exact Reps.cons hd h2
    | succ n => exact Reps.cons h1 (Reps.set hd n h2)
theorem Reps.ints (ns : List Int) : Reps K H (ns.map .int) (ns.map .int) := by
  induction ns with
  | nil => exact Reps.nil
  | cons n r ih => exact Reps.cons Rep.int ih

/-! ### the memory changes -/
theorem Step.new (r : RM K H m) {p : Addr} {o : O} {u : HO} (h : H p = none) : Step m H (mput m p o) (upd H p u) := fun a v e n => by
  have ne : a ≠ p := by rintro rfl; rw [h] at e; cases e
  refine ⟨by rw [upd_ne ne]; exact e, ?_⟩
  rcases n with n | ⟨o', n⟩
  · exact .inl (by rw [mput_ne ne]; exact n)
  · exact .inr ⟨o', by rw [mput_ne ne]; exact n⟩
theorem Step.hid (r : RM K H m) {p : Addr} {u : HO} (h : H p = none) : Step m H m (upd H p u) := fun a v e n => by
  have ne : a ≠ p := by rintro rfl; rw [h] at e; cases e
  exact ⟨by rw [upd_ne ne]; exact e, n⟩
theorem RM.hid (r : RM K H m) {p : Addr} {u : HO} (h : H p = none) : RM K (upd H p u) m := fun a o e => by
  obtain ⟨v, h1, h2⟩ := r a o e
  have ne : a ≠ p := by rintro rfl; rw [h] at h1; cases h1
  exact ⟨v, by rw [upd_ne ne]; exact h1, h2.stay ((Step.hid (u := u) r h).tups r)⟩
theorem RM.new (r : RM K H m) {p : Addr} {o : O} {u : HO} (h : H p = none) (x : RepO K H o u) : RM K (upd H p u) (mput m p o) := fun a o' e => by
  have t := (Step.hid (u := u) r h).tups r
  by_cases ne : a = p
  · subst ne
    rw [mput_same] at e; cases e
    exact ⟨u, upd_same, x.stay t⟩
  · rw [mput_ne ne] at e
    obtain ⟨v, h1, h2⟩ := r a o' e
    exact ⟨v, by rw [upd_ne ne]; exact h1, h2.stay t⟩
def Wr : O → Prop
  | .frz _ => False
  | _ => True
theorem nm_wr {a : Addr} {o : O} (h : m a = some o) (w : Wr o) : ¬ Nm m a := fun n => by
  rcases n with n | ⟨o', n⟩
  · rw [h] at n; cases n
  · rw [h] at n; cases n; exact w
theorem Step.put (r : RM K H m) {p : Addr} {o o0 : O} {u : HO} (h : m p = some o0) (w : Wr o0) : Step m H (mput m p o) (upd H p u) := fun a v e n => by
  have ne : a ≠ p := by rintro rfl; exact nm_wr h w n
  refine ⟨by rw [upd_ne ne]; exact e, ?_⟩
  rcases n with n | ⟨o', n⟩
  · exact .inl (by rw [mput_ne ne]; exact n)
  · exact .inr ⟨o', by rw [mput_ne ne]; exact n⟩
theorem RM.put (r : RM K H m) {p : Addr} {o o0 : O} {u : HO} (h : m p = some o0) (w : Wr o0) (x : RepO K H o u) : RM K (upd H p u) (mput m p o) := fun a o' e => by
  have t := (Step.put (u := u) (o := o) r h w).tups r
  by_cases ne : a = p
  · subst ne
    rw [mput_same] at e; cases e
    exact ⟨u, upd_same, x.stay t⟩
  · rw [mput_ne ne] at e
    obtain ⟨v, h1, h2⟩ := r a o' e
    exact ⟨v, by rw [upd_ne ne]; exact h1, h2.stay t⟩
end

/-! ### the locals -/
abbrev StM := List (Option D)
def RepS (K : PySem.W.Frag) (H : Hp) : Option D → Option V → Prop
  | some d, some v => Rep K H d v
  | none, _ => True
  | _, _ => False
abbrev Ss (K : PySem.W.Frag) (H : Hp) : StM → St → Prop := Paired (RepS K H)
section
variable {K : PySem.W.Frag} {H H' : Hp} {m m' : Mem}
theorem Ss.stay (t : TupS K H H') : ∀ {ρ : StM} {σ : St}, Ss K H ρ σ → Ss K H' ρ σ
  | _, _, .nil => .nil
  | _, _, .cons (a := a) (b := b) h r => .cons (by
      cases a with
      | none => trivial
      | some d =>
        cases b with
        | none => exact h
        | some v => exact Rep.stay t h) (Ss.stay t r)
theorem Ss.get : ∀ {ρ : StM} {σ : St} {i : Nat} {d : D}, Ss K H ρ σ → ρ[i]? = some (some d) → ∃ v, σ[i]? = some (some v) ∧ Rep K H d v
  | _, _, _, _, .nil, e => by simp at e
  | _, _, i, d, .cons (a := a) (b := b) h r, e => by
    cases i with
    | zero =>
      have e' : a = some d := by simpa using e
      subst e'
      cases b with
      | none => exact h.elim
      | some v => exact ⟨v, by simp, h⟩
    | succ i =>
      obtain ⟨v, h1, h2⟩ := Ss.get (i := i) (d := d) r (by simpa using e)
      exact ⟨v, by simpa using h1, h2⟩
theorem Ss.set {d : D} {v : V} (hd : Rep K H d v) : ∀ {ρ : StM} {σ : St} (i : Nat), Ss K H ρ σ → Ss K H (ρ.set i (some d)) (σ.set i (some v))
  | _, _, _, .nil => .nil
  | _, _, 0, .cons h r => .cons hd r
  | _, _, i + 1, .cons h r => .cons h (Ss.set hd i r)
theorem Ss.setN {o : Option V} : ∀ {ρ : StM} {σ : St} (i : Nat), Ss K H ρ σ → Ss K H (ρ.set i none) (σ.set i o)
  | _, _, _, .nil => .nil
  | _, _, 0, .cons h r => .cons trivial r
  | _, _, i + 1, .cons h r => .cons h (Ss.setN i r)
def wipeM (ρ : StM) : List Nat → StM
  | [] => ρ
  | i :: r => (wipeM ρ r).set i none
theorem Ss.wipe {ρ : StM} {σ : St} (h : Ss K H ρ σ) : ∀ vs : List Nat, Ss K H (wipeM ρ vs) (wipe σ vs)
  | [] => h
  | i :: r => Ss.setN i (Ss.wipe h r)
end
end Mm
namespace Mm
open PySem L2

/-- what is kept through a def: closed under steps -/
structure Bs where
  P : Mem → Hp → Prop
  cl : ∀ m H m' H', P m H → Step m H m' H' → P m' H'
abbrev KM := D → Mem → Prop
abbrev TEm := StM → Mem → KM → Prop
abbrev TTm := StM → Mem → (Bool → Mem → Prop) → Prop
abbrev TAm := StM → Mem → (List D → Mem → Prop) → Prop
structure EndsM where
  nx : StM → Mem → Prop
  rt : KM
  bk : StM → Mem → Prop := fun _ _ => False
  ct : StM → Mem → Prop := fun _ _ => False
abbrev TSm := EndsM → StM → Mem → Prop
/-- the address of an object, the items of a tuple, ints of an argument list -/
def refAt (x : D) (k : Addr → Prop) : Prop := match x with
  | .ref a => k a
  | _ => False
def tupAt (x : D) (k : List D → Prop) : Prop := match x with
  | .tup ds => k ds
  | _ => False
def twoAt (ds : List D) (k : D → D → Prop) : Prop := match ds with
  | [x, y] => k x y
  | _ => False
def int1At (ds : List D) (k : Int → Prop) : Prop := match ds with
  | [.int i] => k i
  | _ => False
def int2At (ds : List D) (k : Int → Int → Prop) : Prop := match ds with
  | [.int i, .int j] => k i j
  | _ => False
abbrev TGm := D → StM → Mem → (StM → Mem → Prop) → Prop
abbrev TGsm := List D → StM → Mem → (StM → Mem → Prop) → Prop

structure At (K : PySem.W.Frag) (B : Bs) (σ : St) (H : Hp) (ρ : StM) (m : Mem) : Prop where
  s : Ss K H ρ σ
  r : RM K H m
  b : B.P m H
theorem At.step {K : PySem.W.Frag} {B : Bs} {σ : St} {H H' : Hp} {ρ : StM} {m m' : Mem} (a : At K B σ H ρ m) (r : RM K H' m') (t : Step m H m' H') : At K B σ H' ρ m' :=
  ⟨a.s.stay (t.tups a.r), r, B.cl _ _ _ _ a.b t⟩
theorem At.step' {K : PySem.W.Frag} {B : Bs} {σ σ' : St} {H H' : Hp} {ρ ρ' : StM} {m m' : Mem} (a : At K B σ H ρ m) (r : RM K H' m') (t : Step m H m' H') (s : Ss K H' ρ' σ') : At K B σ' H' ρ' m' :=
  ⟨s, r, B.cl _ _ _ _ a.b t⟩
section
variable (K : PySem.W.Frag) (B : Bs)
def uE (p : TEm) : TE := fun σ H Q => ∃ ρ m Qm, At K B σ H ρ m ∧ p ρ m Qm ∧ ∀ d m' v H', Qm d m' → RM K H' m' → Step m H m' H' → Rep K H' d v → Q v H'
def uT (p : TTm) : TT := fun σ H Q => ∃ ρ m Qm, At K B σ H ρ m ∧ p ρ m Qm ∧ ∀ d m' H', Qm d m' → RM K H' m' → Step m H m' H' → Q d H'
def uA (p : TAm) : TA := fun σ H Q => ∃ ρ m Qm, At K B σ H ρ m ∧ p ρ m Qm ∧ ∀ d m' v H', Qm d m' → RM K H' m' → Step m H m' H' → Reps K H' d v → Q v H'
def uN (σ : St → Hp → Prop) (m : Mem) (H : Hp) (n : StM → Mem → Prop) : Prop := ∀ ρ' m' σ' H', n ρ' m' → RM K H' m' → Step m H m' H' → Ss K H' ρ' σ' → σ σ' H'
def uS (p : TSm) : TS := fun D σ H => ∃ ρ m E, At K B σ H ρ m ∧ p E ρ m ∧ uN K D.nx m H E.nx ∧ (∀ d m' v H', E.rt d m' → RM K H' m' → Step m H m' H' → Rep K H' d v → D.rt v H') ∧ uN K D.bk m H E.bk ∧ uN K D.ct m H E.ct
def uG (g : TGm) : TG := fun v σ H Q => ∃ d ρ m Qm, Rep K H d v ∧ At K B σ H ρ m ∧ g d ρ m Qm ∧ uN K Q m H Qm
def uGs (g : TGsm) : TGs := fun v σ H Q => ∃ d ρ m Qm, Reps K H d v ∧ At K B σ H ρ m ∧ g d ρ m Qm ∧ uN K Q m H Qm
end
section
variable {X : Cx} {e : Expr} {st : Stmt} {es : List Expr} {sts : List Stmt}
theorem peImp {t t' : TE} (h : PE X e t) (i : ∀ σ H Q, t' σ H Q → t σ H Q) : PE X e t' := ⟨fun pins s σ H Q I q => h.run pins s σ H Q I (i _ _ _ q)⟩
theorem ptImp {t t' : TT} (h : PT X e t) (i : ∀ σ H Q, t' σ H Q → t σ H Q) : PT X e t' := ⟨fun pins s σ H Q I q => h.run pins s σ H Q I (i _ _ _ q)⟩
theorem pwImp {t t' : TT} (h : PW X e t) (i : ∀ σ H Q, t' σ H Q → t σ H Q) : PW X e t' := ⟨fun wh pins s σ H Q I q => h.run wh pins s σ H Q I (i _ _ _ q)⟩
theorem paImp {t t' : TA} (h : PA X es t) (i : ∀ σ H Q, t' σ H Q → t σ H Q) : PA X es t' := ⟨fun pos pins s σ H Q I q => h.run pos pins s σ H Q I (i _ _ _ q)⟩
theorem psImp {t t' : TS} (h : PS X st t) (i : ∀ D σ H, t' D σ H → t D σ H) : PS X st t' := ⟨fun pins s σ H D I q => h.run pins s σ H D I (i _ _ _ q)⟩
theorem pssImp {t t' : TS} (h : PSs X sts t) (i : ∀ D σ H, t' D σ H → t D σ H) : PSs X sts t' := ⟨fun pins s σ H D I q => h.run pins s σ H D I (i _ _ _ q)⟩
theorem pgImp {t t' : TG} (h : PG X e t) (i : ∀ v σ H Q, t' v σ H Q → t v σ H Q) : PG X e t' := ⟨fun pins s σ H v u Q I r q => h.run pins s σ H v u Q I r (i _ _ _ _ q)⟩
theorem pgsImp {t t' : TGs} (h : PGs X es t) (i : ∀ v σ H Q, t' v σ H Q → t v σ H Q) : PGs X es t' := ⟨fun pins s σ H v u Q I r q => h.run pins s σ H v u Q I r (i _ _ _ _ q)⟩
end
section
variable (X : Cx) (B : Bs)
def MX (e : Expr) (p : TEm) : Prop := PE X e (uE X.K B p)
def MT (e : Expr) (p : TTm) : Prop := PT X e (uT X.K B p)
def MW (e : Expr) (p : TTm) : Prop := PW X e (uT X.K B p)
def MA (es : List Expr) (p : TAm) : Prop := PA X es (uA X.K B p)
def MS (st : Stmt) (p : TSm) : Prop := PS X st (uS X.K B p)
def MSs (st : List Stmt) (p : TSm) : Prop := PSs X st (uS X.K B p)
def MG (e : Expr) (g : TGm) : Prop := PG X e (uG X.K B g)
def MGs (e : List Expr) (g : TGsm) : Prop := PGs X e (uGs X.K B g)
/-- an operator by values -/
abbrev R2m := D → D → Mem → KM → Prop
abbrev R1m := D → Mem → KM → Prop
abbrev RLm := List D → Mem → KM → Prop
def uR2 (K : PySem.W.Frag) (r : R2m) : R2 := fun v w H Q => ∃ x y m Qm, Rep K H x v ∧ Rep K H y w ∧ RM K H m ∧ r x y m Qm ∧ ∀ d m' v H', Qm d m' → RM K H' m' → Step m H m' H' → Rep K H' d v → Q v H'
def uRL (K : PySem.W.Frag) (r : RLm) : List V → Hp → VK → Prop := fun vs H Q => ∃ ds m Qm, Reps K H ds vs ∧ RM K H m ∧ r ds m Qm ∧ ∀ d m' v H', Qm d m' → RM K H' m' → Step m H m' H' → Rep K H' d v → Q v H'
def MOp (f : Value → Value → Sem Value) (r : R2m) : Prop := OpR X f (uR2 X.K r)
def MIx (r : R2m) : Prop := IxR X (uR2 X.K r)
def MCall (f : Value) (r : RLm) : Prop := CallR X f (uRL X.K r)
end
section
variable {X : Cx} {B : Bs} {e a b c : Expr} {es rest : List Expr} {pos : Pos} {pa pb pc : TEm} {ta tb tc : TTm} {la : TAm}
theorem opImp {f : Value → Value → Sem Value} {r r' : R2} (h : OpR X f r) (i : ∀ x y H Q, r' x y H Q → r x y H Q) : OpR X f r' := fun pins s σ H x y v u Q I r1 r2 q => h pins s σ H x y v u Q I r1 r2 (i _ _ _ _ q)
theorem ixImp {r r' : R2} (h : IxR X r) (i : ∀ x y H Q, r' x y H Q → r x y H Q) : IxR X r' := by
  intro value slice pins s σ H x y v u Q I r1 r2 q hs
  exact h value slice pins s σ H x y v u Q I r1 r2 (i _ _ _ _ q) hs
theorem callImp {f : Value} {r r' : List V → Hp → VK → Prop} (h : CallR X f r) (i : ∀ x H Q, r' x H Q → r x H Q) : CallR X f r' := fun pins s σ H xs us Q I r1 q => h pins s σ H xs us Q I r1 (i _ _ _ q)
/-- run a part, then go on -/
theorem uE.go {K : PySem.W.Frag} {p : TEm} {σ : St} {H : Hp} {ρ : StM} {m : Mem} {Qm : KM} {Q : VK} (A : At K B σ H ρ m) (q : p ρ m Qm) (k : ∀ d m' v H', Qm d m' → RM K H' m' → Step m H m' H' → Rep K H' d v → Q v H') : uE K B p σ H Q := ⟨ρ, m, Qm, A, q, k⟩

/-! ### constants, names -/
def wC (d : D) : TEm := fun _ m Q => Q d m
theorem mxC {v : V} {d : D} (h : PE X e (tC v)) (r : ∀ H, Rep X.K H d v) : MX X B e (wC d) := peImp h fun σ H Q ⟨ρ, m, Qm, A, q, k⟩ => k d m v H q A.r Step.refl (r H)
theorem mx_int {i j pos} : MX X B (.Constant (.int i) j pos) (wC (.int i)) := mxC pe_int fun _ => Rep.int
theorem mx_bl {i j pos} : MX X B (.Constant (.bool i) j pos) (wC (.bl i)) := mxC pe_bl fun _ => Rep.bl
theorem mx_non {j pos} : MX X B (.Constant .none j pos) (wC .non) := mxC pe_non fun _ => Rep.non
theorem mx_str {i j pos} : MX X B (.Constant (.str i) j pos) (wC (.str i)) := mxC pe_str fun _ => Rep.str
def wVar (i : Nat) : TEm := fun ρ m Q => ∃ d, ρ[i]? = some (some d) ∧ Q d m
theorem mx_var {i : Nat} (h : PE X e (tVar i)) : MX X B e (wVar i) := peImp h fun σ H Q ⟨ρ, m, Qm, A, ⟨d, e1, q⟩, k⟩ => by
  obtain ⟨v, e2, r⟩ := A.s.get e1
  exact ⟨v, e2, k d m v H q A.r Step.refl r⟩
/-- the name in slot i -/
theorem mv (i : Nat) {x : Str} {pos : Pos} (hN : X.N[i]? = some x := by rfl) (hv : Vis X.env.scope x := by first | exact Or.inl rfl | exact Or.inr (Or.inl rfl) | exact Or.inr (Or.inr rfl)) (hd : (x == ("__debug__" : Str)) = false := by decide)
    (hcd : (x == ("__classdict__" : Str)) = false := by decide) : MX X B (.Name x pos) (wVar i) := mx_var (pe_var hN hv hd hcd)
/-- a global name whose value is known -/
theorem mx_glob {x : Str} {v : V} {d : D} {u : Value} (hg : Gl X x) (hm : X.mg x = some u) (r : RelV v u) (rd : ∀ H, Rep X.K H d v) (hd : (x == ("__debug__" : Str)) = false := by decide) : MX X B (.Name x pos) (wC d) := mxC (pe_glob hg hm r hd) rd

/-! ### operators -/
def wBin (r : R2m) (pa pb : TEm) : TEm := fun ρ m Q => pa ρ m fun x m1 => pb ρ m1 fun y m2 => r x y m2 Q
theorem bin_go {K : PySem.W.Frag} {r : R2m} {r0 : R2} {σ : St} {H : Hp} {Q : VK} (ho : ∀ x y H Q, uR2 K r x y H Q → r0 x y H Q) (h : uE K B (wBin r pa pb) σ H Q) : tOp r0 (uE K B pa) (uE K B pb) σ H Q := by
  obtain ⟨ρ, m, Qm, A, q, k⟩ := h
  refine ⟨ρ, m, _, A, q, fun x m1 v H1 q1 r1 t1 x1 => ?_⟩
  refine ⟨ρ, m1, _, A.step r1 t1, q1, fun y m2 w H2 q2 r2 t2 x2 => ?_⟩
  exact ho _ _ _ _ ⟨x, y, m2, Qm, x1.stay (t2.tups r1), x2, r2, q2, fun d m' v H' q3 r3 t3 x3 => k d m' v H' q3 r3 (t1.trans (t2.trans t3)) x3⟩
theorem mx_op {op : Operator} {r : R2m} (ho : MOp X (binaryOp op) r) (ha : MX X B a pa) (hb : MX X B b pb) : MX X B (.BinOp a op b pos) (wBin r pa pb) :=
  peImp (pe_op ho ha hb) fun σ H Q h => bin_go (fun _ _ _ _ q => q) h
theorem mx_cmp {op : CmpOp} {r : R2m} (ho : MOp X (compareOp op) r) (ha : MX X B a pa) (hb : MX X B b pb) (hm : behindInMarks op b = false) : MX X B (.Compare a [op] [b] pos) (wBin r pa pb) :=
  peImp (pe_cmpR ho ha hb hm) fun σ H Q h => bin_go (fun _ _ _ _ q => q) h
def wTest (p : TEm) : TTm := fun ρ m Q => p ρ m fun d m' => ∃ k, d = .bl k ∧ Q k m'
theorem test_go {K : PySem.W.Frag} {p : TEm} {t : TE} {σ : St} {H : Hp} {Q : Bool → Hp → Prop} (ho : ∀ σ H Q, uE K B p σ H Q → t σ H Q) (h : uT K B (wTest p) σ H Q) : tTest t σ H Q := by
  obtain ⟨ρ, m, Qm, A, q, k⟩ := h
  refine ho _ _ _ ⟨ρ, m, _, A, q, fun d m1 v H1 q1 r1 t1 x1 => ?_⟩
  obtain ⟨b, e, q1⟩ := q1
  subst e
  exact ⟨b, Rep.bl_iff.mp x1, k b m1 H1 q1 r1 t1⟩
theorem mt_cmp {op : CmpOp} {r : R2m} (ho : MOp X (compareOp op) r) (ha : MX X B a pa) (hb : MX X B b pb) (hm : behindInMarks op b = false) : MT X B (.Compare a [op] [b] pos) (wTest (wBin r pa pb)) :=
  ptImp (pt_cmpR ho ha hb hm) fun σ H Q h => test_go (fun _ _ _ q => bin_go (fun _ _ _ _ q => q) q) h
/-- an expression that gives True or False, as a test -/
theorem mt_val {p : TEm} (h : MX X B e p) (he : ∀ whole, isTrue e X.env whole = (do let v ← whole; standAt e.pos; holding [v] (truthy v)) := by intro _; rfl) : MT X B e (wTest p) :=
  ptImp (pt_val h he) fun σ H Q h => test_go (fun _ _ _ q => q) h
def wChain (r r' : R2m) (pa pb pc : TEm) : TEm := fun ρ m Q => pa ρ m fun x m1 => pb ρ m1 fun y m2 => r x y m2 fun z m3 => ∃ k, z = .bl k ∧ if k = true then pc ρ m3 fun w m4 => r' y w m4 Q else Q (.bl false) m3
theorem chain_go {K : PySem.W.Frag} {r r' : R2m} {σ : St} {H : Hp} {Q : VK} (h : uE K B (wChain r r' pa pb pc) σ H Q) : tChain (uR2 K r) (uR2 K r') (uE K B pa) (uE K B pb) (uE K B pc) σ H Q := by
  obtain ⟨ρ, m, Qm, A, q, k⟩ := h
  refine ⟨ρ, m, _, A, q, fun x m1 v H1 q1 r1 t1 x1 => ?_⟩
  refine ⟨ρ, m1, _, A.step r1 t1, q1, fun y m2 w H2 q2 r2 t2 x2 => ?_⟩
  refine ⟨x, y, m2, _, x1.stay (t2.tups r1), x2, r2, q2, fun z m3 v3 H3 q3 r3 t3 x3 => ?_⟩
  obtain ⟨b, e, q3⟩ := q3
  subst e
  refine ⟨b, Rep.bl_iff.mp x3, ?_⟩
  have t13 := t1.trans (t2.trans t3)
  cases b with
  | false =>
    simp only [Bool.false_eq_true, if_false] at q3 ⊢
    exact k _ _ _ _ q3 r3 t13 Rep.bl
  | true =>
    simp only [if_true] at q3 ⊢
    refine ⟨ρ, m3, _, A.step r3 t13, q3, fun w m4 v4 H4 q4 r4 t4 x4 => ?_⟩
    exact ⟨y, w, m4, Qm, (x2.stay (t3.tups r2)).stay (t4.tups r3), x4, r4, q4, fun d m' v H' q5 r5 t5 x5 => k d m' v H' q5 r5 (t13.trans (t4.trans t5)) x5⟩
theorem mx_chain {op op' : CmpOp} {r r' : R2m} (ho : MOp X (compareOp op) r) (ho' : MOp X (compareOp op') r') (ha : MX X B a pa) (hb : MX X B b pb) (hc : MX X B c pc) (hm : lastMarks [op, op'] [b, c] = false := by with_unfolding_all rfl) : MX X B (.Compare a [op, op'] [b, c] pos) (wChain r r' pa pb pc) :=
  peImp (pe_chain ho ho' ha hb hc hm) fun σ H Q h => chain_go h
theorem mt_chain {op op' : CmpOp} {r r' : R2m} (ho : MOp X (compareOp op) r) (ho' : MOp X (compareOp op') r') (ha : MX X B a pa) (hb : MX X B b pb) (hc : MX X B c pc) (hm : lastMarks [op, op'] [b, c] = false := by with_unfolding_all rfl) : MT X B (.Compare a [op, op'] [b, c] pos) (wTest (wChain r r' pa pb pc)) :=
  ptImp (pt_chain ho ho' ha hb hc hm) fun σ H Q h => test_go (fun _ _ _ q => chain_go q) h
/-- from a rule of the hand layer -/
theorem mop_of {f : Value → Value → Sem Value} {r : R2m} {r0 : R2} (h : OpR X f r0) (i : ∀ x y v w H m Q Qm, Rep X.K H x v → Rep X.K H y w → RM X.K H m → r x y m Qm → (∀ d m' v H', Qm d m' → RM X.K H' m' → Step m H m' H' → Rep X.K H' d v → Q v H') → r0 v w H Q) : MOp X f r :=
  opImp h fun v w H Q ⟨x, y, m, Qm, hx, hy, r, q, k⟩ => i x y v w H m Q Qm hx hy r q k
def wI (C : Int → Int → Prop) (g : Int → Int → D) : R2m := fun x y m Q => match x, y with
  | .int i, .int j => C i j ∧ Q (g i j) m
  | _, _ => False
def wI0 (g : Int → Int → D) : R2m := fun x y m Q => match x, y with
  | .int i, .int j => Q (g i j) m
  | _, _ => False
theorem mopI {f : Value → Value → Sem Value} {C : Int → Int → Prop} {g : Int → Int → V} {gd : Int → Int → D} (h : OpR X f (rI C g)) (hg : ∀ i j H, Rep X.K H (gd i j) (g i j)) : MOp X f (wI C gd) := mop_of h fun x y v w H m Q Qm hx hy r q k => by
  unfold wI at q
  split at q
  · rw [Rep.int_iff.mp hx, Rep.int_iff.mp hy]
    exact ⟨_, _, rfl, rfl, q.1, k _ _ _ _ q.2 r Step.refl (hg _ _ _)⟩
  · exact q.elim
theorem mopI0 {f : Value → Value → Sem Value} {g : Int → Int → V} {gd : Int → Int → D} (h : OpR X f (rI0 g)) (hg : ∀ i j H, Rep X.K H (gd i j) (g i j)) : MOp X f (wI0 gd) := mop_of h fun x y v w H m Q Qm hx hy r q k => by
  unfold wI0 at q
  split at q
  · rw [Rep.int_iff.mp hx, Rep.int_iff.mp hy]
    exact ⟨_, _, rfl, rfl, k _ _ _ _ q r Step.refl (hg _ _ _)⟩
  · exact q.elim
theorem mo_add : MOp X (binaryOp .Add) (wI0 fun i j => .int (i + j)) := mopI0 op_add fun _ _ _ => Rep.int
theorem mo_sub : MOp X (binaryOp .Sub) (wI0 fun i j => .int (i - j)) := mopI0 op_sub fun _ _ _ => Rep.int
theorem mo_mul : MOp X (binaryOp .Mult) (wI CMul fun i j => .int (i * j)) := mopI op_mul fun _ _ _ => Rep.int
theorem mo_mulW : MOp X (binaryOp .Mult) (wI CMulW fun i j => .int (i * j)) := mopI op_mulW fun _ _ _ => Rep.int
theorem mo_mod : MOp X (binaryOp .Mod) (wI (fun _ j => 0 < j) fun i j => .int (i % j)) := mopI op_mod fun _ _ _ => Rep.int
theorem mo_div : MOp X (binaryOp .FloorDiv) (wI CDivW fun i j => .int (i / j)) := mopI op_fdivW fun _ _ _ => Rep.int
theorem mo_pow : MOp X (binaryOp .Pow) (wI CPow fun i j => .int (i ^ j.toNat)) := mopI op_pow fun _ _ _ => Rep.int
theorem mo_lt : MOp X (compareOp .Lt) (wI0 fun i j => .bl (decide (i < j))) := mopI0 op_lt fun _ _ _ => Rep.bl
theorem mo_le : MOp X (compareOp .LtE) (wI0 fun i j => .bl (decide (i ≤ j))) := mopI0 op_le fun _ _ _ => Rep.bl
theorem mo_gt : MOp X (compareOp .Gt) (wI0 fun i j => .bl (decide (j < i))) := mopI0 op_gt fun _ _ _ => Rep.bl
theorem mo_ge : MOp X (compareOp .GtE) (wI0 fun i j => .bl (decide (j ≤ i))) := mopI0 op_ge fun _ _ _ => Rep.bl
/-- == of two flat things -/
def scD : D → D → Option Bool
  | .int i, .int j => some (decide (i = j))
  | .str i, .str j => some (decide (i = j))
  | .bl i, .bl j => some (decide (i = j))
  | .non, .non => some true
  | _, _ => none
def wEq : R2m := fun x y m Q => match scD x y with
  | some b => Q (.bl b) m
  | none => False
def wNe : R2m := fun x y m Q => match scD x y with
  | some b => Q (.bl (!b)) m
  | none => False
theorem scD_of {K : PySem.W.Frag} {H : Hp} {x y : D} {v w : V} {b : Bool} (hx : Rep K H x v) (hy : Rep K H y w) (h : scD x y = some b) : scal v w = true ∧ decide (v = w) = b := by
  unfold scD at h
  split at h
  · rw [Rep.int_iff.mp hx, Rep.int_iff.mp hy]; cases h; exact ⟨rfl, by rw [decide_eq_decide]; exact ⟨fun e => by injection e, fun e => by rw [e]⟩⟩
  · rw [Rep.str_iff.mp hx, Rep.str_iff.mp hy]; cases h; exact ⟨rfl, by rw [decide_eq_decide]; exact ⟨fun e => by injection e, fun e => by rw [e]⟩⟩
  · rw [Rep.bl_iff.mp hx, Rep.bl_iff.mp hy]; cases h; exact ⟨rfl, by rw [decide_eq_decide]; exact ⟨fun e => by injection e, fun e => by rw [e]⟩⟩
  · rw [Rep.non_iff.mp hx, Rep.non_iff.mp hy]; cases h; exact ⟨rfl, by simp⟩
  · cases h
theorem mo_eq : MOp X (compareOp .Eq) wEq := mop_of op_eq fun x y v w H m Q Qm hx hy r q k => by
  unfold wEq at q
  split at q
  · rename_i b e
    obtain ⟨h1, h2⟩ := scD_of hx hy e
    exact ⟨h1, by rw [h2]; exact k _ _ _ _ q r Step.refl Rep.bl⟩
  · exact q.elim
theorem mo_ne : MOp X (compareOp .NotEq) wNe := mop_of op_ne fun x y v w H m Q Qm hx hy r q k => by
  unfold wNe at q
  split at q
  · rename_i b e
    obtain ⟨h1, h2⟩ := scD_of hx hy e
    exact ⟨h1, by rw [h2]; exact k _ _ _ _ q r Step.refl Rep.bl⟩
  · exact q.elim
def wAddS : R2m := fun x y m Q => match x, y with
  | .str i, .str j => i.length + j.length ≤ sizeLine ∧ Q (.str (i ++ j)) m
  | _, _ => False
theorem mo_addS : MOp X (binaryOp .Add) wAddS := mop_of op_add_str fun x y v w H m Q Qm hx hy r q k => by
  unfold wAddS at q
  split at q
  · rw [Rep.str_iff.mp hx, Rep.str_iff.mp hy]
    exact ⟨_, _, rfl, rfl, q.1, k _ _ _ _ q.2 r Step.refl Rep.str⟩
  · exact q.elim
def isN : D → Bool
  | .non => true
  | _ => false
theorem isN_of {K : PySem.W.Frag} {H : Hp} {x : D} {v : V} (hx : Rep K H x v) : decide (v = .non) = isN x := by
  cases x with
  | non => rw [Rep.non_iff.mp hx]; rfl
  | bl b => rw [Rep.bl_iff.mp hx]; rfl
  | int b => rw [Rep.int_iff.mp hx]; rfl
  | str b => rw [Rep.str_iff.mp hx]; rfl
  | ref b => rw [Rep.ref_iff.mp hx]; rfl
  | ty b => rw [Rep.ty_iff.mp hx]; rfl
  | tup b => obtain ⟨a, xs, e, _⟩ := Rep.tup_iff.mp hx; rw [e]; rfl
def wIsN : R2m := fun x y m Q => match y with
  | .non => Q (.bl (isN x)) m
  | _ => False
def wNotN : R2m := fun x y m Q => match y with
  | .non => Q (.bl (!isN x)) m
  | _ => False
theorem mo_isN : MOp X (compareOp .Is) wIsN := mop_of op_isN fun x y v w H m Q Qm hx hy r q k => by
  unfold wIsN at q
  split at q
  · exact ⟨Rep.non_iff.mp hy, by rw [isN_of hx]; exact k _ _ _ _ q r Step.refl Rep.bl⟩
  · exact q.elim
theorem mo_notN : MOp X (compareOp .IsNot) wNotN := mop_of op_notN fun x y v w H m Q Qm hx hy r q k => by
  unfold wNotN at q
  split at q
  · exact ⟨Rep.non_iff.mp hy, by rw [isN_of hx]; exact k _ _ _ _ q r Step.refl Rep.bl⟩
  · exact q.elim

/-! ### and, or, not, if -/
def wAnd (t u : TTm) : TTm := fun ρ m Q => t ρ m fun c m1 => if c = true then u ρ m1 Q else Q false m1
def wOr (t u : TTm) : TTm := fun ρ m Q => t ρ m fun c m1 => if c = true then Q true m1 else u ρ m1 Q
def wNot (t : TTm) : TTm := fun ρ m Q => t ρ m fun c m1 => Q (!c) m1
theorem mw_pt {t : TTm} (h : MW X B e t) : MT X B e t := h.pt
theorem mw_and1 (ha : MT X B a ta) : MW X B (.BoolOp .And [a] pos) ta := pw_and1 ha
theorem mw_or1 (ha : MT X B a ta) : MW X B (.BoolOp .Or [a] pos) ta := pw_or1 ha
theorem mw_and (ha : MT X B a ta) (hb : MW X B (.BoolOp .And (b :: rest) pos) tb) : MW X B (.BoolOp .And (a :: b :: rest) pos) (wAnd ta tb) :=
  pwImp (pw_and ha hb) fun σ H Q ⟨ρ, m, Qm, A, q, k⟩ => by
    refine ⟨ρ, m, _, A, q, fun c m1 H1 q1 r1 t1 => ?_⟩
    cases c with
    | true => simp only [if_true] at q1 ⊢; exact ⟨ρ, m1, Qm, A.step r1 t1, q1, fun d m' H' q2 r2 t2 => k d m' H' q2 r2 (t1.trans t2)⟩
    | false => simp only [Bool.false_eq_true, if_false] at q1 ⊢; exact k _ _ _ q1 r1 t1
theorem mw_or (ha : MT X B a ta) (hb : MW X B (.BoolOp .Or (b :: rest) pos) tb) : MW X B (.BoolOp .Or (a :: b :: rest) pos) (wOr ta tb) :=
  pwImp (pw_or ha hb) fun σ H Q ⟨ρ, m, Qm, A, q, k⟩ => by
    refine ⟨ρ, m, _, A, q, fun c m1 H1 q1 r1 t1 => ?_⟩
    cases c with
    | false => simp only [Bool.false_eq_true, if_false] at q1 ⊢; exact ⟨ρ, m1, Qm, A.step r1 t1, q1, fun d m' H' q2 r2 t2 => k d m' H' q2 r2 (t1.trans t2)⟩
    | true => simp only [if_true] at q1 ⊢; exact k _ _ _ q1 r1 t1
theorem mt_not (ha : MT X B a ta) : MT X B (.UnaryOp .Not a pos) (wNot ta) :=
  ptImp (pt_not ha) fun σ H Q ⟨ρ, m, Qm, A, q, k⟩ => ⟨ρ, m, _, A, q, fun c m1 H1 q1 r1 t1 => k _ _ _ q1 r1 t1⟩
/-- a value that is True or False, by and, or, not -/
def wAndV (p q : TEm) : TEm := fun ρ m Q => p ρ m fun d m1 => ∃ c, d = .bl c ∧ if c = true then q ρ m1 Q else Q (.bl false) m1
def wOrV (p q : TEm) : TEm := fun ρ m Q => p ρ m fun d m1 => ∃ c, d = .bl c ∧ if c = true then Q (.bl true) m1 else q ρ m1 Q
def wNotV (p : TEm) : TEm := fun ρ m Q => p ρ m fun d m1 => ∃ c, d = .bl c ∧ Q (.bl (!c)) m1
theorem mx_one {op} {p : TEm} (h : MX X B a p) : MX X B (.BoolOp op [a] pos) p := pe_one h
theorem mx_and (ha : MX X B a pa) (hb : MX X B (.BoolOp .And (b :: rest) pos) pb) : MX X B (.BoolOp .And (a :: b :: rest) pos) (wAndV pa pb) :=
  peImp (pe_and ha hb) fun σ H Q ⟨ρ, m, Qm, A, q, k⟩ => by
    refine ⟨ρ, m, _, A, q, fun d m1 v H1 ⟨c, e, q1⟩ r1 t1 x1 => ?_⟩
    subst e
    refine ⟨c, Rep.bl_iff.mp x1, ?_⟩
    cases c with
    | true => simp only [if_true] at q1 ⊢; exact ⟨ρ, m1, Qm, A.step r1 t1, q1, fun d m' v H' q2 r2 t2 => k d m' v H' q2 r2 (t1.trans t2)⟩
    | false => simp only [Bool.false_eq_true, if_false] at q1 ⊢; exact k _ _ _ _ q1 r1 t1 Rep.bl
theorem mx_or (ha : MX X B a pa) (hb : MX X B (.BoolOp .Or (b :: rest) pos) pb) : MX X B (.BoolOp .Or (a :: b :: rest) pos) (wOrV pa pb) :=
  peImp (pe_or ha hb) fun σ H Q ⟨ρ, m, Qm, A, q, k⟩ => by
    refine ⟨ρ, m, _, A, q, fun d m1 v H1 ⟨c, e, q1⟩ r1 t1 x1 => ?_⟩
    subst e
    refine ⟨c, Rep.bl_iff.mp x1, ?_⟩
    cases c with
    | false => simp only [Bool.false_eq_true, if_false] at q1 ⊢; exact ⟨ρ, m1, Qm, A.step r1 t1, q1, fun d m' v H' q2 r2 t2 => k d m' v H' q2 r2 (t1.trans t2)⟩
    | true => simp only [if_true] at q1 ⊢; exact k _ _ _ _ q1 r1 t1 Rep.bl
theorem mx_not (ha : MX X B a pa) : MX X B (.UnaryOp .Not a pos) (wNotV pa) :=
  peImp (pe_not ha) fun σ H Q ⟨ρ, m, Qm, A, q, k⟩ => by
    refine ⟨ρ, m, _, A, q, fun d m1 v H1 ⟨c, e, q1⟩ r1 t1 x1 => ?_⟩
    subst e
    exact ⟨c, Rep.bl_iff.mp x1, k _ _ _ _ q1 r1 t1 Rep.bl⟩
def wIf (t : TTm) (p q : TEm) : TEm := fun ρ m Q => t ρ m fun c m1 => if c = true then p ρ m1 Q else q ρ m1 Q
theorem mx_if (hc : MT X B c tc) (ha : MX X B a pa) (hb : MX X B b pb) : MX X B (.IfExp c a b pos) (wIf tc pa pb) :=
  peImp (pe_ifExp hc ha hb) fun σ H Q ⟨ρ, m, Qm, A, q, k⟩ => by
    refine ⟨ρ, m, _, A, q, fun d m1 H1 q1 r1 t1 => ?_⟩
    cases d with
    | true => simp only [if_true] at q1 ⊢; exact ⟨ρ, m1, Qm, A.step r1 t1, q1, fun d m' v H' q2 r2 t2 => k d m' v H' q2 r2 (t1.trans t2)⟩
    | false => simp only [Bool.false_eq_true, if_false] at q1 ⊢; exact ⟨ρ, m1, Qm, A.step r1 t1, q1, fun d m' v H' q2 r2 t2 => k d m' v H' q2 r2 (t1.trans t2)⟩
def wNeg : R1m := fun x m Q => match x with
  | .int i => Q (.int (-i)) m
  | _ => False
def wUn (r : R1m) (p : TEm) : TEm := fun ρ m Q => p ρ m fun d m1 => r d m1 Q
theorem mx_neg (ha : MX X B a pa) : MX X B (.UnaryOp .USub a pos) (wUn wNeg pa) :=
  peImp (pe_un un_neg ha) fun σ H Q ⟨ρ, m, Qm, A, q, k⟩ => by
    refine ⟨ρ, m, _, A, q, fun d m1 v H1 q1 r1 t1 x1 => ?_⟩
    unfold wNeg at q1
    split at q1
    · exact ⟨_, Rep.int_iff.mp x1, k _ _ _ _ q1 r1 t1 Rep.int⟩
    · exact q1.elim

/-! ### argument lists, displays -/
def wNil : TAm := fun _ m Q => Q [] m
def wCons (p : TEm) (t : TAm) : TAm := fun ρ m Q => p ρ m fun d m1 => t ρ m1 fun ds m2 => Q (d :: ds) m2
theorem ma_nil : MA X B [] wNil := paImp pa_nil fun σ H Q ⟨ρ, m, Qm, A, q, k⟩ => k [] m [] H q A.r Step.refl Reps.nil
theorem ma_cons (ha : MX X B e pa) (hr : MA X B es la) (hs : starEach (e :: es) X.env = (false, eval e X.env) :: starEach es X.env := by rfl) : MA X B (e :: es) (wCons pa la) :=
  paImp (pa_cons ha hr hs) fun σ H Q ⟨ρ, m, Qm, A, q, k⟩ => by
    refine ⟨ρ, m, _, A, q, fun d m1 v H1 q1 r1 t1 x1 => ?_⟩
    refine ⟨ρ, m1, _, A.step r1 t1, q1, fun ds m2 vs H2 q2 r2 t2 x2 => ?_⟩
    exact k _ _ _ _ q2 r2 (t1.trans t2) (Reps.cons (x1.stay (t2.tups r1)) x2)
def wTup (t : TAm) : TEm := fun ρ m Q => t ρ m fun ds m1 => ds.length ≤ sizeLine ∧ Q (.tup ds) m1
theorem mx_tup {k : Nat} (h : MA X B es la) : MX X B (.Tuple es k pos) (wTup la) :=
  peImp (pe_tup h) fun σ H Q ⟨ρ, m, Qm, A, q, k⟩ => by
    refine ⟨ρ, m, _, A, q, fun ds m1 vs H1 ⟨z, q1⟩ r1 t1 x1 => ⟨by rw [← x1.length]; exact z, fun p hp => ?_⟩⟩
    have t2 : Step m1 H1 m1 (upd H1 p (.tup vs)) := Step.hid r1 hp
    exact k _ _ _ _ q1 (r1.hid hp) (t1.trans t2) (Rep.tup_iff.mpr ⟨p, vs, rfl, TupAt.of upd_same, x1.stay (t2.tups r1)⟩)
/-- a new object is laid -/
def newO (o : O) (m : Mem) (Q : KM) : Prop := ∀ p, m p = none → Q (.ref p) (mput m p o)
theorem new_go {K : PySem.W.Frag} {m0 m1 : Mem} {H0 H1 : Hp} {o : O} {u : HO} {Qm : KM} {Q : VK} (q : newO o m1 Qm) (r1 : RM K H1 m1) (t1 : Step m0 H0 m1 H1) (x : RepO K H1 o u) (k : ∀ d m' v H', Qm d m' → RM K H' m' → Step m0 H0 m' H' → Rep K H' d v → Q v H') :
    ∀ p, H1 p = none → Q (.ref p) (upd H1 p u) := fun p hp => k _ _ _ _ (q p (r1.out hp)) (r1.new hp x) (t1.trans (Step.new r1 hp)) Rep.ref
def wLst (t : TAm) : TEm := fun ρ m Q => t ρ m fun ds m1 => ds.length ≤ sizeLine ∧ newO (.lst ds) m1 Q
theorem mx_lst (h : MA X B es la) : MX X B (.List es pos) (wLst la) :=
  peImp (pe_lst h) fun σ H Q ⟨ρ, m, Qm, A, q, k⟩ => by
    refine ⟨ρ, m, _, A, q, fun ds m1 vs H1 ⟨z, q1⟩ r1 t1 x1 => ⟨by rw [← x1.length]; exact z, ?_⟩⟩
    exact new_go q1 r1 t1 ⟨vs, rfl, x1⟩ k

/-! ### reading an object -/
def rdM (m : Mem) (a : Addr) : Option O := match m a with
  | some (.frz o) => some o
  | o => o
theorem rd_of {m : Mem} {a : Addr} {o : O} (h : m a = some o) (w : Wr o) : rdM m a = some o := by
  unfold rdM; rw [h]; cases o <;> first | rfl | exact w.elim
theorem rd_frz {m : Mem} {a : Addr} {o : O} (h : m a = some (.frz o)) : rdM m a = some o := by unfold rdM; rw [h]
theorem rd_go {K : PySem.W.Frag} {H : Hp} {m : Mem} {a : Addr} {o : O} (r : RM K H m) (h : rdM m a = some o) : ∃ u, Rd H a u ∧ RepO K H o u := by
  unfold rdM at h
  split at h
  · rename_i o' e
    cases h
    obtain ⟨u, h1, ob, v, rfl, h2⟩ := r a _ e
    exact ⟨v, .inr ⟨ob, h1⟩, h2⟩
  · obtain ⟨u, h1, h2⟩ := r a _ h
    exact ⟨u, .inl h1, h2⟩
theorem rd_lst {K : PySem.W.Frag} {H : Hp} {m : Mem} {a : Addr} {ds : List D} (r : RM K H m) (h : rdM m a = some (.lst ds)) : ∃ xs, SqL K H a xs ∧ Reps K H ds xs := by
  obtain ⟨u, h1, xs, rfl, h2⟩ := rd_go r h
  exact ⟨xs, .inl h1, h2⟩
end
end Mm
namespace Mm
open PySem L2
section
variable {X : Cx} {B : Bs} {e a b c : Expr} {st : Stmt} {es : List Expr} {rest : List Stmt} {pos : Pos} {pa pb pc p : TEm} {ta tb tc : TTm} {la : TAm} {t u : TSm}

/-! ### statements -/
def wSeq (t u : TSm) : TSm := fun E ρ m => t { E with nx := u E } ρ m
def wNext : TSm := fun E ρ m => E.nx ρ m
theorem uN.refl {K : PySem.W.Frag} {n : St → Hp → Prop} {m : Mem} {H : Hp} {nm : StM → Mem → Prop} {σ : St} {ρ : StM} (h : uN K n m H nm) (A : At K B σ H ρ m) (q : nm ρ m) : n σ H := h _ _ _ _ q A.r Step.refl A.s
theorem uN.trans {K : PySem.W.Frag} {n : St → Hp → Prop} {m m1 : Mem} {H H1 : Hp} {nm : StM → Mem → Prop} (h : uN K n m H nm) (t1 : Step m H m1 H1) : uN K n m1 H1 nm := fun ρ' m' σ' H' q r t s => h ρ' m' σ' H' q r (t1.trans t) s
theorem mss_nil : MSs X B [] wNext := pssImp pss_nil fun D σ H ⟨ρ, m, E, A, q, n, _⟩ => n.refl A q
theorem mss_one (h : MS X B st t) : MSs X B [st] t := pss_one h
theorem mss_cons (h1 : MS X B st t) (h2 : MSs X B rest u) : MSs X B (st :: rest) (wSeq t u) := pssImp (pss_cons h1 h2) fun D σ H ⟨ρ, m, E, A, q, n, rt, bk, ct⟩ => by
  refine ⟨ρ, m, { E with nx := u E }, A, q, ?_, rt, bk, ct⟩
  intro ρ' m' σ' H' q' r' t' s'
  exact ⟨ρ', m', E, A.step' r' t' s', q', n.trans t', fun d m2 v H2 q2 r2 t2 x2 => rt d m2 v H2 q2 r2 (t'.trans t2) x2, bk.trans t', ct.trans t'⟩
theorem ms_pass : MS X B (.Pass pos) wNext := psImp ps_pass fun D σ H ⟨ρ, m, E, A, q, n, _⟩ => n.refl A q
theorem ms_doc {x j pos pos'} : MS X B (.Expr (.Constant (.str x) j pos) pos') wNext := psImp ps_doc fun D σ H ⟨ρ, m, E, A, q, n, _⟩ => n.refl A q
def wBreak : TSm := fun E ρ m => E.bk ρ m
def wCont : TSm := fun E ρ m => E.ct ρ m
theorem ms_break : MS X B (.Break pos) wBreak := psImp ps_break fun D σ H ⟨ρ, m, E, A, q, n, _, bk, _⟩ => bk.refl A q
theorem ms_continue : MS X B (.Continue pos) wCont := psImp ps_continue fun D σ H ⟨ρ, m, E, A, q, n, _, _, ct⟩ => ct.refl A q
def wDrop (p : TEm) : TSm := fun E ρ m => p ρ m fun _ m1 => E.nx ρ m1
theorem ms_expr (h : MX X B e p) (hs : swapsWith e none pos.line X.env = pure false := by rfl) : MS X B (.Expr e pos) (wDrop p) := psImp (ps_expr h hs) fun D σ H ⟨ρ, m, E, A, q, n, _⟩ =>
  ⟨ρ, m, _, A, q, fun d m1 v H1 q1 r1 t1 x1 => n _ _ _ _ q1 r1 t1 (A.s.stay (t1.tups A.r))⟩
def wRet (p : TEm) : TSm := fun E ρ m => p ρ m E.rt
theorem ms_ret (h : MX X B e p) : MS X B (.Return (some e) pos) (wRet p) := psImp (ps_ret h) fun D σ H ⟨ρ, m, E, A, q, n, rt, _⟩ => ⟨ρ, m, _, A, q, rt⟩
def wRetN : TSm := fun E _ m => E.rt .non m
theorem ms_retN : MS X B (.Return none pos) wRetN := psImp ps_retN fun D σ H ⟨ρ, m, E, A, q, n, rt, _⟩ => rt _ _ _ _ q A.r Step.refl Rep.non
def wIfS (c : TTm) (t u : TSm) : TSm := fun E ρ m => c ρ m fun b m1 => if b = true then t E ρ m1 else u E ρ m1
theorem ms_if {xs ys : List Stmt} (hc : MT X B c tc) (ha : MSs X B xs t) (hb : MSs X B ys u) : MS X B (.If c xs ys pos) (wIfS tc t u) := psImp (ps_if hc ha hb) fun D σ H ⟨ρ, m, E, A, q, n, rt, bk, ct⟩ => by
  refine ⟨ρ, m, _, A, q, fun d m1 H1 q1 r1 t1 => ?_⟩
  have fin : ∀ {v : TSm}, v E ρ m1 → uS X.K B v D σ H1 := fun {v} z => ⟨ρ, m1, E, A.step r1 t1, z, n.trans t1, fun d m2 v H2 q2 r2 t2 x2 => rt d m2 v H2 q2 r2 (t1.trans t2) x2, bk.trans t1, ct.trans t1⟩
  cases d with
  | true => simp only [if_true] at q1 ⊢; exact fin q1
  | false => simp only [Bool.false_eq_true, if_false] at q1 ⊢; exact fin q1
def wNever : TSm := fun _ _ _ => False
theorem ms_never : MS X B st wNever := psImp ps_never fun D σ H ⟨ρ, m, E, A, q, _⟩ => q
theorem mss_never {sts : List Stmt} : MSs X B sts wNever := pssImp pss_never fun D σ H ⟨ρ, m, E, A, q, _⟩ => q

/-! ### targets -/
def gN (i : Nat) : TGm := fun d ρ m Q => Q (ρ.set i (some d)) m
theorem mg_name {i : Nat} {x : Str} (hN : X.N.Nodup) (hi : X.N[i]? = some x) (hx : Loc X.env.scope x) (hf : X.fn x = true ∨ X.env.scope.names.lookup x = some .local := by first | exact .inl rfl | exact .inr rfl | assumption) : MG X B (.Name x pos) (gN i) :=
  pgImp (pg_name hN hi hx hf) fun v σ H Q ⟨d, ρ, m, Qm, x, A, q, k⟩ => k _ _ _ _ q A.r Step.refl (Ss.set x i A.s)
def gNils : TGsm := fun ds ρ m Q => ds = [] ∧ Q ρ m
def gConss (g : TGm) (h : TGsm) : TGsm := fun ds ρ m Q => match ds with
  | d :: r => g d ρ m fun ρ1 m1 => h r ρ1 m1 Q
  | [] => False
theorem mgs_nil : MGs X B [] gNils := pgsImp pgs_nil fun vs σ H Q ⟨ds, ρ, m, Qm, x, A, ⟨e, q⟩, k⟩ => by
  subst e
  exact ⟨Reps.nil_iff.mp x, k _ _ _ _ q A.r Step.refl A.s⟩
theorem mgs_cons {g : TGm} {h : TGsm} (h1 : MG X B e g) (h2 : MGs X B es h) (hs : (assignEach (e :: es) X.env).map (·.2) = assign e X.env :: (assignEach es X.env).map (·.2) := by rfl) : MGs X B (e :: es) (gConss g h) :=
  pgsImp (pgs_cons h1 h2 hs) fun vs σ H Q ⟨ds, ρ, m, Qm, x, A, q, k⟩ => by
    unfold gConss at q
    split at q
    · rename_i d r
      obtain ⟨v, w, e, x1, x2⟩ := Reps.cons_iff.mp x
      refine ⟨v, w, e, d, ρ, m, _, x1, A, q, fun ρ1 m1 σ1 H1 q1 r1 t1 s1 => ?_⟩
      exact ⟨r, ρ1, m1, Qm, x2.stay (t1.tups A.r), A.step' r1 t1 s1, q1, k.trans t1⟩
    · exact q.elim
def gTupM (n : Nat) (h : TGsm) : TGm := fun d ρ m Q => match d with
  | .tup ds => ds.length = n ∧ h ds ρ m Q
  | _ => False
theorem mg_tup {k : Nat} {h : TGsm} {n : Nat} (hc : X.calm = true) (hh : MGs X B es h) (hn : (assignEach es X.env).length = n := by rfl) (hst : (assignEach es X.env).findIdx? (·.1) = none := by rfl) : MG X B (.Tuple es k pos) (gTupM n h) :=
  pgImp (pg_tup hc hh hn hst) fun v σ H Q ⟨d, ρ, m, Qm, x, A, q, k⟩ => by
    unfold gTupM at q
    split at q
    · obtain ⟨a, xs, e, s, r⟩ := Rep.tup_iff.mp x
      exact ⟨a, xs, e, s.sq, by rw [← r.length]; exact q.1, _, ρ, m, Qm, r, A, q.2, k⟩
    · exact q.elim
def wAsg (p : TEm) (g : TGm) : TSm := fun E ρ m => p ρ m fun d m1 => g d ρ m1 E.nx
theorem asg_go {K : PySem.W.Frag} {g : TGm} {D : Ends} {σ : St} {H : Hp} (h : uS K B (wAsg p g) D σ H) : tAsg (uE K B p) (uG K B g) D σ H := by
  obtain ⟨ρ, m, E, A, q, n, _⟩ := h
  exact ⟨ρ, m, _, A, q, fun d m1 v H1 q1 r1 t1 x1 => ⟨d, ρ, m1, _, x1, A.step r1 t1, q1, n.trans t1⟩⟩
theorem ms_asg {tg : Expr} {g : TGm} (h : MX X B e p) (hg : MG X B tg g) (hs : swapsWithSole [tg] e pos.line X.env = pure false := by rfl) (hw : swappedStores [tg] e X.env = pure none := by rfl)
    (h1 : (assignEach [tg] X.env).map (·.2) = [assign tg X.env] := by rfl) : MS X B (.Assign [tg] e pos) (wAsg p g) := psImp (ps_asg h hg hs hw h1) fun D σ H h => asg_go h
def wSet (i : Nat) (p : TEm) : TSm := fun E ρ m => p ρ m fun d m1 => E.nx (ρ.set i (some d)) m1
theorem ms_set {i : Nat} {x : Str} {pos' : Pos} (hN : X.N.Nodup) (hi : X.N[i]? = some x) (hx : Loc X.env.scope x) (h : MX X B e p) (hs : swapsWith e (some (.Name x pos')) pos.line X.env = pure false := by rfl) (hf : X.fn x = true ∨ X.env.scope.names.lookup x = some .local := by first | exact .inl rfl | exact .inr rfl | assumption) :
    MS X B (.Assign [.Name x pos'] e pos) (wSet i p) := psImp (ps_set hN hi hx h hs hf) fun D σ H ⟨ρ, m, E, A, q, n, _⟩ =>
  ⟨ρ, m, _, A, q, fun d m1 v H1 q1 r1 t1 x1 => n _ _ _ _ q1 r1 t1 (Ss.set x1 i (A.s.stay (t1.tups A.r)))⟩
def wPar (i j : Nat) (t : TAm) : TSm := fun E ρ m => t ρ m fun ds m1 => twoAt ds fun x y => E.nx ((ρ.set i (some x)).set j (some y)) m1
theorem ms_par {i j : Nat} {x y : Str} {px py pt : Pos} {kt k2 pt2} (hc : X.calm = true) (hN : X.N.Nodup) (hi : X.N[i]? = some x) (hj : X.N[j]? = some y) (hij : i ≠ j)
    (hx : X.env.scope.names.lookup x = some .local) (hy : X.env.scope.names.lookup y = some .local) (ha : MA X B [a, b] la)
    (hw : swappedStores [.Tuple [.Name x px, .Name y py] kt pt] (.Tuple [a, b] k2 pt2) X.env = pure (some [x, y]))
    (hs : swapsWithSole [.Tuple [.Name x px, .Name y py] kt pt] (.Tuple [a, b] k2 pt2) pos.line X.env = pure false := by rfl) :
    MS X B (.Assign [.Tuple [.Name x px, .Name y py] kt pt] (.Tuple [a, b] k2 pt2) pos) (wPar i j la) := psImp (ps_par hc hN hi hj hij hx hy ha hw hs) fun D σ H ⟨ρ, m, E, A, q, n, _⟩ => by
  refine ⟨ρ, m, _, A, q, fun ds m1 vs H1 q1 r1 t1 x1 => ?_⟩
  unfold twoAt at q1
  split at q1
  · obtain ⟨v, r, e, y1, y2⟩ := Reps.cons_iff.mp x1
    obtain ⟨w, r', e', z1, z2⟩ := Reps.cons_iff.mp y2
    rw [Reps.nil_iff.mp z2] at e'
    subst e'
    exact ⟨v, w, e, n _ _ _ _ q1 r1 t1 (Ss.set z1 j (Ss.set y1 i (A.s.stay (t1.tups A.r))))⟩
  · exact q1.elim

/-! ### subscripts -/
theorem mix_of {r : R2m} {r0 : R2} (h : IxR X r0) (i : ∀ x y v w H m Q Qm, Rep X.K H x v → Rep X.K H y w → RM X.K H m → r x y m Qm → (∀ d m' v H', Qm d m' → RM X.K H' m' → Step m H m' H' → Rep X.K H' d v → Q v H') → r0 v w H Q) : MIx X r :=
  ixImp h fun v w H Q ⟨x, y, m, Qm, hx, hy, r, q, k⟩ => i x y v w H m Q Qm hx hy r q k
theorem mx_ix {r : R2m} (hr : MIx X r) (ha : MX X B a pa) (hb : MX X B b pb) (hs : PlainIx b := by exact fun _ _ => rfl) : MX X B (.Subscript a b pos) (wBin r pa pb) :=
  peImp (pe_ix hr ha hb hs) fun σ H Q h => bin_go (fun _ _ _ _ q => q) h
/-- the item of a sequence at a place -/
def wIx : R2m := fun x y m Q => match x, y with
  | .tup ds, .int i => ∃ d, atI ds i = some d ∧ Q d m
  | .ref a, .int i => ∃ ds d, rdM m a = some (.lst ds) ∧ atI ds i = some d ∧ Q d m
  | .str z, .int i => z.length ≤ sizeLine ∧ ∃ c, atI z.cps.toList i = some c ∧ Q (.str ⟨#[c]⟩) m
  | _, _ => False
theorem atI_rep {K : PySem.W.Frag} {H : Hp} {ds : List D} {vs : List V} {i : Int} {d : D} (h : Reps K H ds vs) (e : atI ds i = some d) : ∃ v, atI vs i = some v ∧ Rep K H d v := by
  unfold atI at e ⊢
  rw [← h.length]
  cases q : ixN ds.length i with
  | none => rw [q] at e; cases e
  | some j =>
    rw [q] at e
    exact h.get e
theorem mi_ix : MIx X wIx := mix_of ix_seq fun x y v w H m Q Qm hx hy r q k => by
  unfold wIx at q
  split at q
  · obtain ⟨d, e, q⟩ := q
    obtain ⟨a, xs, e1, s, rr⟩ := Rep.tup_iff.mp hx
    obtain ⟨v', e2, x2⟩ := atI_rep rr e
    exact .inr (.inl ⟨a, xs, _, v', e1, Rep.int_iff.mp hy, s.sq, e2, k _ _ _ _ q r Step.refl x2⟩)
  · obtain ⟨ds, d, e0, e, q⟩ := q
    obtain ⟨xs, s, rr⟩ := rd_lst r e0
    obtain ⟨v', e2, x2⟩ := atI_rep rr e
    exact .inl ⟨_, xs, _, v', Rep.ref_iff.mp hx, Rep.int_iff.mp hy, s, e2, k _ _ _ _ q r Step.refl x2⟩
  · obtain ⟨z, c, e, q⟩ := q
    exact .inr (.inr ⟨_, _, c, Rep.str_iff.mp hx, Rep.int_iff.mp hy, z, e, k _ _ _ _ q r Step.refl Rep.str⟩)
  · exact q.elim

/-! ### calls of built-ins -/
theorem mcall_of {f : Value} {r : RLm} {r0 : List V → Hp → VK → Prop} (h : CallR X f r0) (i : ∀ ds vs H m Q Qm, Reps X.K H ds vs → RM X.K H m → r ds m Qm → (∀ d m' v H', Qm d m' → RM X.K H' m' → Step m H m' H' → Rep X.K H' d v → Q v H') → r0 vs H Q) : MCall X f r :=
  callImp h fun vs H Q ⟨ds, m, Qm, hx, r, q, k⟩ => i ds vs H m Q Qm hx r q k
def wCB (r : RLm) (t : TAm) : TEm := fun ρ m Q => t ρ m fun ds m1 => r ds m1 Q
theorem cb_go {K : PySem.W.Frag} {r : RLm} {σ : St} {H : Hp} {Q : VK} (h : uE K B (wCB r la) σ H Q) : tCB (uRL K r) (uA K B la) σ H Q := by
  obtain ⟨ρ, m, Qm, A, q, k⟩ := h
  exact ⟨ρ, m, _, A, q, fun ds m1 vs H1 q1 r1 t1 x1 => ⟨ds, m1, Qm, x1, r1, q1, fun d m' v H' q2 r2 t2 x2 => k d m' v H' q2 r2 (t1.trans t2) x2⟩⟩
theorem mx_callB {x : Str} {id : String} {r : RLm} {p : Pos} (hc : MCall X (.builtin id) r) (hm : X.mg x = none) (ha : MA X B (e :: es) la) (hg : Gl X x := by rfl) (hv : bootBuiltins x = some (.builtin id) := by decide +kernel) (hn : x ≠ "__name__" := by decide) (hdb : (x == ("__debug__" : Str)) = false := by decide)
    (he : starEach (e :: es) X.env = (false, eval e X.env) :: starEach es X.env := by rfl) (hpl : (backTo pos (starEach es X.env)).any (·.1) = false := by rfl) : MX X B (.Call (.Name x p) (e :: es) [] pos) (wCB r la) :=
  peImp (pe_callB hc hg hm hv ha hn hdb he hpl) fun σ H Q h => cb_go h
theorem mx_callTy {x : Str} {T : String} {r : RLm} {p : Pos} (hc : MCall X (.type T) r) (hm : X.mg x = none) (ha : MA X B (e :: es) la) (hg : Gl X x := by rfl) (hv : bootBuiltins x = some (.type T) := by decide +kernel) (hn : x ≠ "__name__" := by decide) (hdb : (x == ("__debug__" : Str)) = false := by decide)
    (he : starEach (e :: es) X.env = (false, eval e X.env) :: starEach es X.env := by rfl) (hpl : (backTo pos (starEach es X.env)).any (·.1) = false := by rfl) : MX X B (.Call (.Name x p) (e :: es) [] pos) (wCB r la) :=
  peImp (pe_callTy hc hg hm hv ha hn hdb he hpl) fun σ H Q h => cb_go h
theorem reps1 {K : PySem.W.Frag} {H : Hp} {d : D} {vs : List V} (h : Reps K H [d] vs) : ∃ v, vs = [v] ∧ Rep K H d v := by
  obtain ⟨v, r, e, x, y⟩ := Reps.cons_iff.mp h
  rw [Reps.nil_iff.mp y] at e
  exact ⟨v, e, x⟩
theorem reps2 {K : PySem.W.Frag} {H : Hp} {d d2 : D} {vs : List V} (h : Reps K H [d, d2] vs) : ∃ v w, vs = [v, w] ∧ Rep K H d v ∧ Rep K H d2 w := by
  obtain ⟨v, r, e, x, y⟩ := Reps.cons_iff.mp h
  obtain ⟨w, e2, z⟩ := reps1 y
  subst e2
  exact ⟨v, w, e, x, z⟩
/-- len -/
def wLen : RLm := fun ds m Q => match ds with
  | [.str z] => z.length ≤ sizeLine ∧ Q (.int z.length) m
  | [.tup ds] => Q (.int ds.length) m
  | [.ref a] => (∃ ds, rdM m a = some (.lst ds) ∧ Q (.int ds.length) m) ∨ (∃ kvs, rdM m a = some (.dK kvs) ∧ Q (.int kvs.length) m) ∨ ∃ kvs, m a = some (.dT kvs) ∧ Q (.int kvs.length) m
  | _ => False
end
end Mm
namespace Mm
open PySem L2

/-! ### what is walked: the items, a look at the memory ahead of each turn -/
abbrev TIm := StM → Mem → (List D → (Mem → Prop) → Mem → Prop) → Prop
/-- the iterator J gives the items ds while chk stands -/
def Good (K : PySem.W.Frag) (J : It) (ds : List D) (chk : Mem → Prop) (m1 : Mem) (H1 : Hp) : Prop :=
  ∀ (i : Nat) (m' : Mem) (H' : Hp), Step m1 H1 m' H' → RM K H' m' → chk m' →
    (∀ d, ds[i]? = some d → J.go i H' ∧ ∀ x H2, J.yld i H' x H2 → RM K H2 m' ∧ Step m' H' m' H2 ∧ Rep K H2 d x) ∧ (ds.length ≤ i → J.stop i H')
def uI (K : PySem.W.Frag) (B : Bs) (ti : TIm) : TI := fun σ H R => ∃ ρ m Rm, At K B σ H ρ m ∧ ti ρ m Rm ∧ ∀ ds chk m1 H1 J, Rm ds chk m1 → RM K H1 m1 → Step m H m1 H1 → Good K J ds chk m1 H1 → R J H1
section
variable {X : Cx} {tg iter : Expr}
theorem piImp {t t' : TI} (h : PI X tg iter t) (i : ∀ σ H R, t' σ H R → t σ H R) : PI X tg iter t' := ⟨fun pins s σ H R I q => h.run pins s σ H R I (i _ _ _ q)⟩
end
def MI (X : Cx) (B : Bs) (tg iter : Expr) (ti : TIm) : Prop := PI X tg iter (uI X.K B ti)

section
variable {X : Cx} {B : Bs} {e e2 a b c tg iter : Expr} {st : Stmt} {es : List Expr} {rest body : List Stmt} {pos : Pos} {pa pb pc p : TEm} {ta tb tc : TTm} {la : TAm} {t u : TSm}
/-- over a list, looked at ahead of each turn -/
def iL (p : TEm) : TIm := fun ρ m R => p ρ m fun d m1 => refAt d fun a => ∃ ds, rdM m1 a = some (.lst ds) ∧ R ds (fun m' => rdM m' a = some (.lst ds)) m1
/-- over a list of which nothing else is known while it is walked -/
def iH (p : TEm) : TIm := fun ρ m R => p ρ m fun d m1 => refAt d fun a => ∃ ds m0, rdM m1 a = some (.lst ds) ∧ Sub m0 m1 ∧ Nm m0 a ∧ R ds (fun _ => True) m0
def iT (p : TEm) : TIm := fun ρ m R => p ρ m fun d m1 => tupAt d fun ds => R ds (fun _ => True) m1
theorem good_list {K : PySem.W.Frag} {a : Addr} {ds : List D} {chk : Mem → Prop} {m1 : Mem} {H1 : Hp} (h : ∀ m' H', Step m1 H1 m' H' → RM K H' m' → chk m' → ∃ xs, SqL K H' a xs ∧ Reps K H' ds xs) (hf : ∀ H' xs ys, SqL K H' a xs → SqL K H' a ys → xs = ys → True) :
    Good K ⟨(Itl K a).go, fun i H x H' => H' = H ∧ ∀ xs, SqL K H a xs → xs[i]? = some x, (Itl K a).stop⟩ ds chk m1 H1 := fun i m' H' s r k => by
  obtain ⟨xs, hx, rr⟩ := h m' H' s r k
  refine ⟨fun d e => ?_, fun e => ⟨xs, hx, by rw [← rr.length]; exact e⟩⟩
  obtain ⟨v, e2, x2⟩ := rr.get e
  refine ⟨⟨xs, v, hx, e2⟩, fun x H2 y => ?_⟩
  obtain ⟨e3, y⟩ := y
  subst e3
  have e4 := y xs hx
  rw [e2] at e4; cases e4
  exact ⟨r, Step.refl, x2⟩
theorem mi_list (h : MX X B iter p) : MI X B tg iter (iL p) := piImp (pi_list h) fun σ H R ⟨ρ, m, Rm, A, q, k⟩ => by
  refine ⟨ρ, m, _, A, q, fun d m1 v H1 q1 r1 t1 x1 => ?_⟩
  unfold refAt at q1
  split at q1
  · obtain ⟨ds, e, q1⟩ := q1
    obtain ⟨xs, hx, rr⟩ := rd_lst r1 e
    refine ⟨_, Rep.ref_iff.mp x1, ⟨xs, hx⟩, k _ _ _ _ _ q1 r1 t1 (good_list (fun m' H' s r c => rd_lst r c) fun _ _ _ _ _ _ => trivial)⟩
  · exact q1.elim
theorem sqL_step {K : PySem.W.Frag} {m m' : Mem} {H H' : Hp} {a : Addr} {xs : List V} (s : Step m H m' H') (n : Nm m a) (h : SqL K H a xs) : SqL K H' a xs := by
  rcases h with (h | ⟨ob, h⟩) | h
  · exact .inl (.inl (s a _ h n).1)
  · exact .inl (.inr ⟨ob, (s a _ h n).1⟩)
  · exact .inr h
theorem mi_hid (h : MX X B iter p) : MI X B tg iter (iH p) := piImp (pi_list h) fun σ H R ⟨ρ, m, Rm, A, q, k⟩ => by
  refine ⟨ρ, m, _, A, q, fun d m1 v H1 q1 r1 t1 x1 => ?_⟩
  unfold refAt at q1
  split at q1
  · obtain ⟨ds, m0, e, sb, n, q1⟩ := q1
    obtain ⟨xs, hx, rr⟩ := rd_lst r1 e
    have r0 := r1.sub sb
    refine ⟨_, Rep.ref_iff.mp x1, ⟨xs, hx⟩, k _ _ _ _ _ q1 r0 (t1.sub sb) (good_list (fun m' H' s r c => ⟨xs, sqL_step s n hx, rr.stay (s.tups r0)⟩) fun _ _ _ _ _ _ => trivial)⟩
  · exact q1.elim
theorem mi_tup (h : MX X B iter p) : MI X B tg iter (iT p) := piImp (pi_tup h) fun σ H R ⟨ρ, m, Rm, A, q, k⟩ => by
  refine ⟨ρ, m, _, A, q, fun d m1 v H1 q1 r1 t1 x1 => ?_⟩
  unfold tupAt at q1
  split at q1
  · rename_i ds
    obtain ⟨a, xs, e, hT, rr⟩ := Rep.tup_iff.mp x1
    refine ⟨a, e, ⟨xs, hT.sq⟩, k _ _ _ _ (Itt X.K a) q1 r1 t1 fun i m' H' s r c => ?_⟩
    have hx : SqT X.K H' a xs := ((s.tups r1) _ _ _ hT).sq
    have rr' := rr.stay (s.tups r1)
    refine ⟨fun d e => ?_, fun e => ⟨xs, hx, by rw [← rr'.length]; exact e⟩⟩
    obtain ⟨v, e2, x2⟩ := rr'.get e
    refine ⟨⟨xs, v, hx, e2⟩, fun x H2 y => ?_⟩
    obtain ⟨e3, y⟩ := y
    subst e3
    have e4 := y xs hx
    rw [e2] at e4; cases e4
    exact ⟨r, Step.refl, x2⟩
  · exact q1.elim
/-- ints in a row -/
def rangeD (lo : Int) (n : Nat) : List D := (List.range n).map fun i => .int (lo + (i : Nat))
theorem good_range {K : PySem.W.Frag} {lo : Int} {n : Nat} {m1 : Mem} {H1 : Hp} : Good K (Itr lo n) (rangeD lo n) (fun _ => True) m1 H1 := fun i m' H' s r k => by
  refine ⟨fun d e => ?_, fun e => ?_⟩
  · unfold rangeD at e
    rw [List.getElem?_map] at e
    obtain ⟨j, e1, e2⟩ := Option.map_eq_some_iff.mp e
    have hj : i < n := by
      have := (List.getElem?_eq_some_iff.mp e1).1
      simpa using this
    have : j = i := by
      rw [List.getElem?_range hj] at e1
      exact (Option.some.inj e1).symm
    subst this e2
    exact ⟨hj, fun x H2 y => ⟨by rw [y.1]; exact r, by rw [y.1]; exact Step.refl, by rw [y.2]; exact Rep.int⟩⟩
  · unfold rangeD at e
    simp at e
    exact e
def iR1 (t : TAm) : TIm := fun ρ m R => t ρ m fun ds m1 => int1At ds fun j => -(2 ^ 62) ≤ j ∧ j < 2 ^ 62 ∧ R (rangeD 0 j.toNat) (fun _ => True) m1
def iR2 (t : TAm) : TIm := fun ρ m R => t ρ m fun ds m1 => int2At ds fun i j => (-(2 ^ 62) ≤ i ∧ i < 2 ^ 62 ∧ -(2 ^ 62) ≤ j ∧ j < 2 ^ 62) ∧ R (rangeD i (j - i).toNat) (fun _ => True) m1
theorem mi_range1 {p pos : Pos} (hm : X.mg "range" = none) (ha : MA X B [a] la) (hg : Gl X "range" := by rfl) (hs : starEach [a] X.env = [(false, eval a X.env)] := by rfl) : MI X B tg (.Call (.Name "range" p) [a] [] pos) (iR1 la) := piImp (pi_range1 hg hm ha hs) fun σ H R ⟨ρ, m, Rm, A, q, k⟩ => by
  refine ⟨ρ, m, _, A, q, fun ds m1 vs H1 q1 r1 t1 x1 => ?_⟩
  unfold int1At at q1
  split at q1
  · obtain ⟨v, e, y⟩ := reps1 x1
    rw [Rep.int_iff.mp y] at e
    exact ⟨_, e, q1.1, q1.2.1, k _ _ _ _ _ q1.2.2 r1 t1 good_range⟩
  · exact q1.elim
theorem mi_range2 {p pos : Pos} (hm : X.mg "range" = none) (ha : MA X B [a, b] la) (hg : Gl X "range" := by rfl) (hs : starEach [a, b] X.env = [(false, eval a X.env), (false, eval b X.env)] := by rfl) (hs2 : starEach [b] X.env = [(false, eval b X.env)] := by rfl) :
    MI X B tg (.Call (.Name "range" p) [a, b] [] pos) (iR2 la) := piImp (pi_range2 hg hm ha hs hs2) fun σ H R ⟨ρ, m, Rm, A, q, k⟩ => by
  refine ⟨ρ, m, _, A, q, fun ds m1 vs H1 q1 r1 t1 x1 => ?_⟩
  unfold int2At at q1
  split at q1
  · obtain ⟨v, w, e, y, z⟩ := reps2 x1
    rw [Rep.int_iff.mp y, Rep.int_iff.mp z] at e
    exact ⟨_, _, e, q1.1, k _ _ _ _ _ q1.2 r1 t1 good_range⟩
  · exact q1.elim

/-! ### for -/
def forC (chk : Mem → Prop) (g : TGm) (tb : TSm) (E : EndsM) : List D → StM → Mem → Prop
  | [], ρ, m => chk m ∧ E.nx ρ m
  | d :: r, ρ, m => chk m ∧ g d ρ m fun ρ2 m2 => tb { E with nx := forC chk g tb E r, ct := forC chk g tb E r, bk := E.nx } ρ2 m2
theorem forC.chk {chk : Mem → Prop} {g : TGm} {tb : TSm} {E : EndsM} {ds : List D} {ρ : StM} {m : Mem} (h : forC chk g tb E ds ρ m) : chk m := by
  cases ds with
  | nil => exact h.1
  | cons d r => exact h.1
def wFor (ti : TIm) (g : TGm) (tb : TSm) : TSm := fun E ρ m => ti ρ m fun ds chk m1 => forC chk g tb E ds ρ m1
theorem for_go {K : PySem.W.Frag} {ti : TIm} {g : TGm} {tb : TSm} {D : Ends} {σ : St} {H : Hp} (h : uS K B (wFor ti g tb) D σ H) : tFor (uI K B ti) (uG K B g) (uS K B tb) D σ H := by
  obtain ⟨ρ, m, E, A, q, n, rt, bk, ct⟩ := h
  refine ⟨ρ, m, _, A, q, fun ds chk m1 H1 J q1 r1 t1 gd => ?_⟩
  refine ⟨fun i mm σ' H' => mm = ds.length - i ∧ i ≤ ds.length ∧ ∃ ρ' m', At K B σ' H' ρ' m' ∧ Step m1 H1 m' H' ∧ forC chk g tb E (ds.drop i) ρ' m', ⟨ds.length, by simp, Nat.zero_le _, ρ, m1, A.step r1 t1, Step.refl, by simpa using q1⟩, ?_⟩
  rintro i mm σ' H' ⟨rfl, hi, ρ', m', A', t', q'⟩
  have G := gd i m' H' t' A'.r q'.chk
  by_cases hlt : i < ds.length
  · refine .inr ?_
    have e : ds[i]? = some ds[i] := by simp [hlt]
    obtain ⟨go, yl⟩ := G.1 _ e
    rw [List.drop_eq_getElem_cons hlt] at q'
    refine ⟨go, _, fun σ2 H2 z => ⟨ds.length - (i + 1), by omega, z⟩, fun x H2 y => ?_⟩
    obtain ⟨r2, t2, x2⟩ := yl x H2 y
    have t02 := t1.trans (t'.trans t2)
    refine ⟨_, ρ', m', _, x2, A'.step r2 t2, q'.2, ?_⟩
    intro ρ3 m3 σ3 H3 q3 r3 t3 s3
    have t03 := t02.trans t3
    refine ⟨ρ3, m3, _, (A'.step r2 t2).step' r3 t3 s3, q3, ?_, fun d m4 v H4 q4 r4 t4 x4 => rt d m4 v H4 q4 r4 (t03.trans t4) x4, n.trans t03, ?_⟩
    · intro ρ4 m4 σ4 H4 q4 r4 t4 s4
      exact ⟨rfl, hlt, ρ4, m4, ((A'.step r2 t2).step' r3 t3 s3).step' r4 t4 s4, t'.trans (t2.trans (t3.trans t4)), q4⟩
    · intro ρ4 m4 σ4 H4 q4 r4 t4 s4
      exact ⟨rfl, hlt, ρ4, m4, ((A'.step r2 t2).step' r3 t3 s3).step' r4 t4 s4, t'.trans (t2.trans (t3.trans t4)), q4⟩
  · have e : i = ds.length := by omega
    subst e
    rw [List.drop_length] at q'
    exact .inl ⟨G.2 (Nat.le_refl _), n _ _ _ _ q'.2 A'.r (t1.trans t') A'.s⟩
theorem ms_for {ti : TIm} {g : TGm} {tb : TSm} (hp : PassesOwn (model X.prog X.w) X.A X.env X.xe) (hc : X.calm = true) (hi : MI X B tg iter ti) (hg : MG X B tg g) (hb : MSs X B body tb)
    (hs : ∀ x, foldedSetIterable iter X.env x = pure x := by intro _; rfl) : MS X B (.For tg iter body [] pos) (wFor ti g tb) := psImp (ps_for hp hc hi hg hb hs) fun D σ H h => for_go h

/-! ### while: by a word of the turns left -/
def wWhile (c : TTm) (tb : TSm) : TSm := fun E ρ m => ∃ W : Nat → StM → Mem → Prop, (∃ n, W n ρ m) ∧ ∀ n ρ m, W n ρ m →
  c ρ m fun b m1 => if b = true then tb { E with nx := fun ρ' m' => ∃ n', n' < n ∧ W n' ρ' m', ct := fun ρ' m' => ∃ n', n' < n ∧ W n' ρ' m', bk := E.nx } ρ m1 else E.nx ρ m1
theorem ms_while {c : TTm} {tb : TSm} (hp : PassesOwn (model X.prog X.w) X.A X.env X.xe) (hc : MT X B e c) (hb : MSs X B body tb) : MS X B (.While e body [] pos) (wWhile c tb) := psImp (ps_while hp hc hb) fun D σ H ⟨ρ, m, E, A, q, n, rt, bk, ct⟩ => by
  obtain ⟨W, ⟨n0, w0⟩, turn⟩ := q
  refine ⟨fun k σ' H' => ∃ ρ' m', At X.K B σ' H' ρ' m' ∧ Step m H m' H' ∧ W k ρ' m', ⟨n0, ρ, m, A, Step.refl, w0⟩, ?_⟩
  rintro k σ' H' ⟨ρ', m', A', t', w'⟩
  refine ⟨ρ', m', _, A', turn k ρ' m' w', fun d m2 H2 q2 r2 t2 => ?_⟩
  have t02 := t'.trans t2
  cases d with
  | false => simp only [Bool.false_eq_true, if_false] at q2 ⊢; exact n _ _ _ _ q2 r2 t02 (A'.step r2 t2).s
  | true =>
    simp only [if_true] at q2 ⊢
    refine ⟨fun σ3 H3 => ∃ k', k' < k ∧ ∃ ρ' m', At X.K B σ3 H3 ρ' m' ∧ Step m H m' H3 ∧ W k' ρ' m', fun σ3 H3 ⟨k', lt, z⟩ => ⟨k', lt, z⟩, ?_⟩
    refine ⟨ρ', m2, _, A'.step r2 t2, q2, ?_, fun d m4 v H4 q4 r4 t4 x4 => rt d m4 v H4 q4 r4 (t02.trans t4) x4, n.trans t02, ?_⟩
    · intro ρ4 m4 σ4 H4 ⟨n', lt, q4⟩ r4 t4 s4
      exact ⟨n', lt, ρ4, m4, (A'.step r2 t2).step' r4 t4 s4, t02.trans t4, q4⟩
    · intro ρ4 m4 σ4 H4 ⟨n', lt, q4⟩ r4 t4 s4
      exact ⟨n', lt, ρ4, m4, (A'.step r2 t2).step' r4 t4 s4, t02.trans t4, q4⟩

/-! ### comprehensions -/
def MTs (X : Cx) (B : Bs) (ifs : List Expr) (t : TTm) : Prop := PTs X ifs (uT X.K B t)
def wYes : TTm := fun _ m Q => Q true m
theorem mts_nil : MTs X B [] wYes := ⟨fun pins s σ H Q I ⟨ρ, m, Qm, A, q, k⟩ => pts_nil.run pins s σ H Q I (k _ _ _ q A.r Step.refl)⟩
theorem mts_one (h : MT X B c tc) : MTs X B [c] tc := pts_one h
def lcC (chk : Mem → Prop) (g : TGm) (tt : TTm) (te : TEm) (vs : List Nat) (ρ : StM) (Q : List D → Mem → Prop) : List D → List D → Mem → Prop
  | [], acc, m => chk m ∧ Q acc m
  | d :: r, acc, m => chk m ∧ g d (wipeM ρ vs) m fun ρ2 m2 => wipeM ρ2 vs = wipeM ρ vs ∧ tt ρ2 m2 fun b m3 => if b = true then te ρ2 m3 fun y m4 => acc.length < sizeLine ∧ lcC chk g tt te vs ρ Q r (acc ++ [y]) m4 else lcC chk g tt te vs ρ Q r acc m3
theorem lcC.chk {chk : Mem → Prop} {g : TGm} {tt : TTm} {te : TEm} {vs : List Nat} {ρ : StM} {Q : List D → Mem → Prop} {ds acc : List D} {m : Mem} (h : lcC chk g tt te vs ρ Q ds acc m) : chk m := by
  cases ds with
  | nil => exact h.1
  | cons d r => exact h.1
/-- the names of a target, forgotten again -/
structure GOk (K : PySem.W.Frag) (B : Bs) (g : TGm) (g0 : TG) (vs : List Nat) : Prop where
  go : ∀ d v ρ σ m H (Qm : StM → Mem → Prop), Rep K H d v → At K B σ H ρ m → g d ρ m Qm → ∀ (Q : St → Hp → Prop), (∀ ρ' m' σ' H', Qm ρ' m' → RM K H' m' → Step m H m' H' → Ss K H' ρ' σ' → wipe σ' vs = wipe σ vs → Q σ' H') → g0 v σ H Q
theorem wipe_cons {σ : St} {v : Nat} {vs : List Nat} : wipe σ (v :: vs) = (wipe σ vs).set v none := rfl
theorem wipe_set {σ : St} {i : Nat} {o : Option V} : ∀ {vs : List Nat}, i ∈ vs → wipe (σ.set i o) vs = wipe σ vs
  | [], h => by simp at h
  | v :: vs, h => by
    rw [wipe_cons, wipe_cons]
    by_cases hi : i ∈ vs
    · rw [wipe_set hi]
    · have e : i = v := by simpa [hi] using h
      subst e
      have z : ∀ ws : List Nat, i ∉ ws → wipe (σ.set i o) ws = (wipe σ ws).set i o := by
        intro ws
        induction ws with
        | nil => intro _; rfl
        | cons w ws ih =>
          intro hn
          rw [wipe_cons, wipe_cons]
          rw [ih (fun z => hn (List.mem_cons_of_mem _ z)), List.set_comm]
          rintro rfl; exact hn List.mem_cons_self
      rw [z vs hi, List.set_set]
theorem gok_name {K : PySem.W.Frag} {i : Nat} {vs : List Nat} (h : i ∈ vs) : GOk K B (gN i) (gName i) vs := ⟨fun d v ρ σ m H Qm x A q Q k => k _ _ _ _ q A.r Step.refl (Ss.set x i A.s) (wipe_set h)⟩
structure GsOk (K : PySem.W.Frag) (B : Bs) (g : TGsm) (g0 : TGs) (vs : List Nat) : Prop where
  go : ∀ d v ρ σ m H (Qm : StM → Mem → Prop), Reps K H d v → At K B σ H ρ m → g d ρ m Qm → ∀ (Q : St → Hp → Prop), (∀ ρ' m' σ' H', Qm ρ' m' → RM K H' m' → Step m H m' H' → Ss K H' ρ' σ' → wipe σ' vs = wipe σ vs → Q σ' H') → g0 v σ H Q
theorem gsok_nil {K : PySem.W.Frag} {vs : List Nat} : GsOk K B gNils gNil vs := ⟨fun d v ρ σ m H Qm x A ⟨e, q⟩ Q k => by subst e; exact ⟨Reps.nil_iff.mp x, k _ _ _ _ q A.r Step.refl A.s rfl⟩⟩
theorem gsok_cons {K : PySem.W.Frag} {vs : List Nat} {g : TGm} {g0 : TG} {h : TGsm} {h0 : TGs} (a : GOk K B g g0 vs) (b : GsOk K B h h0 vs) : GsOk K B (gConss g h) (gCons g0 h0) vs := ⟨fun d v ρ σ m H Qm x A q Q k => by
  unfold gConss at q
  split at q
  · rename_i d r
    obtain ⟨v, w, e, x1, x2⟩ := Reps.cons_iff.mp x
    refine ⟨v, w, e, a.go _ _ _ _ _ _ _ x1 A q _ fun ρ1 m1 σ1 H1 q1 r1 t1 s1 w1 => ?_⟩
    exact b.go _ _ _ _ _ _ _ (x2.stay (t1.tups A.r)) (A.step' r1 t1 s1) q1 _ fun ρ2 m2 σ2 H2 q2 r2 t2 s2 w2 => k _ _ _ _ q2 r2 (t1.trans t2) s2 (w2.trans w1)
  · exact q.elim⟩
theorem gok_tup {K : PySem.W.Frag} {n : Nat} {vs : List Nat} {h : TGsm} {h0 : TGs} (b : GsOk K B h h0 vs) : GOk K B (gTupM n h) (gTup K n h0) vs := ⟨fun d v ρ σ m H Qm x A q Q k => by
  unfold gTupM at q
  split at q
  · obtain ⟨a, xs, e, s, r⟩ := Rep.tup_iff.mp x
    exact ⟨a, xs, e, s.sq, by rw [← r.length]; exact q.1, b.go _ _ _ _ _ _ _ r A q.2 _ k⟩
  · exact q.elim⟩
def wLc (ti : TIm) (g : TGm) (tt : TTm) (te : TEm) (vs : List Nat) : TEm := fun ρ m Q => ti ρ m fun ds chk m1 => lcC chk g tt te vs ρ (fun acc m' => newO (.lst acc) m' Q) ds [] m1
theorem lc_gen {K : PySem.W.Frag} {ti : TIm} {g : TGm} {g0 : TG} {tt : TTm} {te : TEm} {vs : List Nat} {σ : St} {H : Hp} {Q : VK} {ρ : StM} {m : Mem} {QA : List D → Mem → Prop} (hg : GOk K B g g0 vs) (A : At K B σ H ρ m)
    (q : ti ρ m fun ds chk m1 => lcC chk g tt te vs ρ QA ds [] m1) (k : ∀ acc m' L H', QA acc m' → m' L = none → RM K H' (mput m' L (.lst acc)) → Step m H (mput m' L (.lst acc)) H' → (∃ xs, H' L = some (.lst xs)) → Q (.ref L) H') : tLc (uI K B ti) g0 (uT K B tt) (uE K B te) vs σ H Q := by
  refine ⟨ρ, m, _, A, q, fun ds chk m1 H1 J q1 r1 t1 gd => ?_⟩
  intro L hL
  have hL1 : m1 L = none := r1.out hL
  -- at each turn: the list at L, hidden
  refine ⟨fun i mm H' => mm = ds.length - i ∧ i ≤ ds.length ∧ ∃ m' acc xs, RM K H' m' ∧ Step m1 H1 m' H' ∧ Nm m' L ∧ H' L = some (.lst xs) ∧ Reps K H' acc xs ∧ lcC chk g tt te vs ρ QA (ds.drop i) acc m',
    ⟨ds.length, by simp, Nat.zero_le _, m1, [], [], r1.hid hL, Step.hid r1 hL, .inl hL1, upd_same, Reps.nil, by simpa using q1⟩, ?_⟩
  rintro i mm H' ⟨rfl, hi, m', acc, xs, r', t', nL, eL, ra, q'⟩
  have G := gd i m' H' t' r' q'.chk
  by_cases hlt : i < ds.length
  · refine .inr ?_
    have e : ds[i]? = some ds[i] := by simp [hlt]
    obtain ⟨go, yl⟩ := G.1 _ e
    rw [List.drop_eq_getElem_cons hlt] at q'
    refine ⟨go, fun H2 => ∃ m' acc xs, RM K H2 m' ∧ Step m1 H1 m' H2 ∧ Nm m' L ∧ H2 L = some (.lst xs) ∧ Reps K H2 acc xs ∧ lcC chk g tt te vs ρ QA (ds.drop (i + 1)) acc m', fun H2 z => ⟨ds.length - (i + 1), by omega, rfl, hlt, z⟩, fun x H2 y => ?_⟩
    obtain ⟨r2, t2, x2⟩ := yl x H2 y
    have A2 : At K B (wipe σ vs) H2 (wipeM ρ vs) m' := ⟨((A.s.wipe vs).stay (t1.tups A.r)).stay ((t'.trans t2).tups r1), r2, B.cl _ _ _ _ A.b (t1.trans (t'.trans t2))⟩
    refine hg.go _ _ _ _ _ _ _ x2 A2 q'.2 _ fun ρ3 m3 σ3 H3 ⟨wm, q3⟩ r3 t3 s3 w3 => ?_
    have ww : wipe (wipe σ vs) vs = wipe σ vs := by
      have z : ∀ (σ : St) (i : Nat) (ws : List Nat), i ∈ ws → (wipe σ ws).set i none = wipe σ ws := by
        intro σ i ws
        induction ws with
        | nil => intro h; simp at h
        | cons w ws ih =>
          intro h
          rw [wipe_cons]
          by_cases e : i = w
          · subst e; rw [List.set_set]
          · have : i ∈ ws := by simpa [e] using h
            rw [List.set_comm _ _ (Ne.symm e), ih this]
      have z2 : ∀ (ws us : List Nat), (∀ i ∈ ws, i ∈ us) → wipe (wipe σ us) ws = wipe σ us := by
        intro ws
        induction ws with
        | nil => intro us _; rfl
        | cons w ws ih =>
          intro us h
          rw [wipe_cons]
          rw [ih us (fun i hi => h i (List.mem_cons_of_mem _ hi)), z σ w us (h w List.mem_cons_self)]
      exact z2 vs vs fun _ h => h
    refine ⟨w3.trans ww, ρ3, m3, _, A2.step' r3 t3 s3, q3, fun bb m4 H4 q4 r4 t4 => ?_⟩
    have tA : Step m' H' m4 H4 := t2.trans (t3.trans t4)
    cases bb with
    | false =>
      simp only [Bool.false_eq_true, if_false] at q4 ⊢
      obtain ⟨e5, n5⟩ := tA L _ eL nL
      exact ⟨m4, acc, xs, r4, t'.trans tA, n5, e5, ra.stay (tA.tups r'), q4⟩
    | true =>
      simp only [if_true] at q4 ⊢
      refine ⟨ρ3, m4, _, (A2.step' r3 t3 s3).step r4 t4, q4, fun yd m5 yv H5 ⟨z5, q5⟩ r5 t5 x5 => ?_⟩
      have tB := tA.trans t5
      obtain ⟨e5, n5⟩ := tB L _ eL nL
      have ra5 := ra.stay (tB.tups r')
      have tC : Step m5 H5 m5 (upd H5 L (.lst (xs ++ [yv]))) → True := fun _ => trivial
      -- the hidden list is written
      have ts : TupS K H5 (upd H5 L (.lst (xs ++ [yv]))) := by
        have ne : ∀ a o, H5 a = some o → (∀ z, o ≠ .lst z) → upd H5 L (.lst (xs ++ [yv])) a = some o := fun a o h1 h2 => by
          rw [upd_ne]; exact h1
          rintro rfl; rw [e5] at h1; cases h1; exact h2 _ rfl
        intro a ys n hy
        rcases hy with hy | ⟨z, hy⟩
        · exact .inl (ne _ _ hy fun _ z => by cases z)
        · refine .inr ⟨z, ?_⟩
          rcases hy with (hy | ⟨ob, hy⟩) | hy
          · exact .inl (.inl (ne _ _ hy fun _ z => by cases z))
          · exact .inl (.inr ⟨ob, ne _ _ hy fun _ z => by cases z⟩)
          · exact .inr hy
      refine ⟨xs, e5, by rw [← ra5.length]; exact z5, m5, acc ++ [yd], xs ++ [yv], ?_, ?_, n5, upd_same, (ra5.append (Reps.cons x5 Reps.nil)).stay ts, q5⟩
      · intro a o ho
        obtain ⟨w, h1, h2⟩ := r5 a o ho
        have ne : a ≠ L := by
          rintro rfl
          rcases n5 with n5 | ⟨o', n5⟩
          · rw [n5] at ho; cases ho
          · rw [n5] at ho; cases ho
            obtain ⟨ob, v, e6, _⟩ := h2
            rw [e5] at h1; cases h1; cases e6
        exact ⟨w, by rw [upd_ne ne]; exact h1, h2.stay ts⟩
      · intro a w h1 n1
        have ne : a ≠ L := by rintro rfl; rw [hL] at h1; cases h1
        obtain ⟨h2, n2⟩ := (t'.trans tB) a w h1 n1
        exact ⟨by rw [upd_ne ne]; exact h2, n2⟩
  · have e : i = ds.length := by omega
    subst e
    rw [List.drop_length] at q'
    refine .inl ⟨G.2 (Nat.le_refl _), ?_⟩
    have mL : m' L = none := by
      rcases nL with h | ⟨o, h⟩
      · exact h
      · obtain ⟨w, h1, ob, v, e6, _⟩ := r' L _ h
        rw [eL] at h1; cases h1; cases e6
    refine k _ _ _ _ q'.2 mL ?_ ?_ ⟨_, eL⟩
    · intro a o ho
      by_cases ne : a = L
      · subst ne
        rw [mput_same] at ho; cases ho
        exact ⟨_, eL, xs, rfl, ra⟩
      · rw [mput_ne ne] at ho
        exact r' a o ho
    · intro a w h1 n1
      obtain ⟨h2, n2⟩ := t1 a w h1 n1
      have ne : a ≠ L := by rintro rfl; rw [hL] at h2; cases h2
      obtain ⟨h3, n3⟩ := t' a w h2 n2
      refine ⟨h3, ?_⟩
      rcases n3 with n3 | ⟨o, n3⟩
      · exact .inl (by rw [mput_ne ne]; exact n3)
      · exact .inr ⟨o, by rw [mput_ne ne]; exact n3⟩
theorem lc_go {K : PySem.W.Frag} {ti : TIm} {g : TGm} {g0 : TG} {tt : TTm} {te : TEm} {vs : List Nat} {σ : St} {H : Hp} {Q : VK} (hg : GOk K B g g0 vs) (h : uE K B (wLc ti g tt te vs) σ H Q) : tLc (uI K B ti) g0 (uT K B tt) (uE K B te) vs σ H Q := by
  obtain ⟨ρ, m, Qm, A, q, k⟩ := h
  exact lc_gen hg A q fun acc m' L H' qa mL r t _ => k _ _ _ _ (qa L mL) r t Rep.ref
theorem mx_lc {elt : Expr} {ifs : List Expr} {scope : Scope} {own : List (Str × Nat)} {ti : TIm} {g : TGm} {g0 : TG} {tt : TTm} {te : TEm} (hc : X.calm = true) (hN : X.N.Nodup) (hi : MI X B tg iter ti) (ok : BlkOk X.N X.env.scope scope own)
    (hg : ∀ (s : Shared) (H : Hp) (C : Addr) (cl : List (Str × Addr)) (fp : List Addr), PG (X.blk s H scope (compEnvC scope cl C X.env) fp) tg g0) (gk : GOk X.K B g g0 (own.map (·.2)))
    (ht : ∀ (s : Shared) (H : Hp) (C : Addr) (cl : List (Str × Addr)) (fp : List Addr), MTs (X.blk s H scope (compEnvC scope cl C X.env) fp) B ifs tt)
    (he : ∀ (s : Shared) (H : Hp) (C : Addr) (cl : List (Str × Addr)) (fp : List Addr), MX (X.blk s H scope (compEnvC scope cl C X.env) fp) B elt te) (hs : ∀ x, foldedSetIterable iter X.env x = pure x := by intro _; rfl) :
    MX X B (.ListComp elt [⟨tg, iter, ifs, 0⟩] scope pos) (wLc ti g tt te (own.map (·.2))) := peImp (pe_lc (tt := uT X.K B tt) (te := uE X.K B te) hc hN hi ok hg ht he hs) fun σ H Q h => lc_go gk h
theorem ms_setLc {i : Nat} {y : Str} {py : Pos} {spos : Pos} {elt : Expr} {ifs : List Expr} {scope : Scope} {own : List (Str × Nat)} {ti : TIm} {g : TGm} {g0 : TG} {tt : TTm} {te : TEm} (hc : X.calm = true) (hN : X.N.Nodup) (hy : X.N[i]? = some y) (hyl : X.env.scope.names.lookup y = some .local)
    (hsw : swapsWith (.ListComp elt [⟨tg, iter, ifs, 0⟩] scope pos) (some (.Name y py)) spos.line X.env = pure true) (hi : MI X B tg iter ti) (ok : BlkOk X.N X.env.scope scope own)
    (hg : ∀ (s : Shared) (H : Hp) (C : Addr) (cl : List (Str × Addr)) (fp : List Addr), PG (X.blk s H scope (compEnvC scope cl C X.env) fp) tg g0) (gk : GOk X.K B g g0 (own.map (·.2)))
    (ht : ∀ (s : Shared) (H : Hp) (C : Addr) (cl : List (Str × Addr)) (fp : List Addr), MTs (X.blk s H scope (compEnvC scope cl C X.env) fp) B ifs tt)
    (he : ∀ (s : Shared) (H : Hp) (C : Addr) (cl : List (Str × Addr)) (fp : List Addr), MX (X.blk s H scope (compEnvC scope cl C X.env) fp) B elt te) (hs : ∀ x, foldedSetIterable iter X.env x = pure x := by intro _; rfl) :
    MS X B (.Assign [.Name y py] (.ListComp elt [⟨tg, iter, ifs, 0⟩] scope pos) spos) (wSet i (wLc ti g tt te (own.map (·.2)))) := psImp (ps_setLc (tt := uT X.K B tt) (te := uE X.K B te) hc hN hy hyl hsw hi ok hg ht he hs) fun D σ H ⟨ρ, m, E, A, q, n, _⟩ =>
  lc_go gk ⟨ρ, m, _, A, q, fun d m1 v H1 q1 r1 t1 x1 => n _ _ _ _ q1 r1 t1 (Ss.set x1 i (A.s.stay (t1.tups A.r)))⟩
end
end Mm
namespace Mm
open PySem L2
open PyProof.Rows (envOfC)

/-! ### promises -/
abbrev XM := Addr → Mem → Prop
abbrev SpM := List D → Mem → KM → XM → Prop
def liftSp (K : PySem.W.Frag) (sp : SpM) : Sp := fun vs H Q E => ∃ ds m Qm Em, Reps K H ds vs ∧ RM K H m ∧ sp ds m Qm Em ∧
  (∀ d m' v H', Qm d m' → RM K H' m' → Step m H m' H' → Rep K H' d v → Q v H') ∧ ∀ C m' H', Em C m' → RM K H' m' → Step m H m' H' → E (.ref C) none H'
abbrev FnM (P : Program) (w : World) (K : PySem.W.Frag) (mg : Str → Option Value) (base : Heap) (CX : CXT) (k : Nat) (f : Addr) (fd : FuncData) (ps : List Str) (sp : SpM) : Prop := FnOk P w K mg base CX k f fd ps (liftSp K sp)
/-- how an exception is wished for in a body -/
def uX (K : PySem.W.Frag) (B : Bs) (Em : XM) : XK := fun cls d H' => ∃ C m', cls = .ref C ∧ d = none ∧ Em C m' ∧ RM K H' m' ∧ B.P m' H'
def noX : XM := fun _ _ => False
def wCall (sp : SpM) (Em : XM) (t : TAm) : TEm := fun ρ m Q => t ρ m fun ds m1 => sp ds m1 Q Em
section
variable {X : Cx} {B : Bs} {e o : Expr} {es : List Expr} {pos p apos : Pos} {la : TAm} {pa : TEm} {CX : CXT} {k : Nat} {f C : Addr} {fd : FuncData} {ps : List Str} {sp : SpM} {Em : XM} {x n : Str}
theorem call_go {K : PySem.W.Frag} {σ : St} {H : Hp} {Q : VK} (h : uE K B (wCall sp Em la) σ H Q) : tCall (liftSp K sp) [] (uX K B Em) (uA K B la) σ H Q := by
  obtain ⟨ρ, m, Qm, A, q, k⟩ := h
  refine ⟨ρ, m, _, A, q, fun ds m1 vs H1 q1 r1 t1 x1 => ?_⟩
  show liftSp K sp (vs ++ []) H1 Q (uX K B Em)
  rw [List.append_nil]
  exact ⟨ds, m1, Qm, Em, x1, r1, q1, fun d m' v H' q2 r2 t2 x2 => k d m' v H' q2 r2 (t1.trans t2) x2, fun C m' H' q2 r2 t2 => ⟨C, m', rfl, rfl, q2, r2, B.cl _ _ _ _ A.b (t1.trans t2)⟩⟩
theorem mx_call (F : FnM X.prog X.w X.K X.mg X.base CX k f fd ps sp) (hr : Room k X.A) (hm : X.mg x = some (.ref f)) (hk : PySem.W.keepIn X.K (.ref f) = true) (hb : Binds X.K fd ps []) (hx : Passes CX X (uX X.K B Em))
    (ha : MA X B (e :: es) la) (hg : Gl X x := by rfl) (hdb : (x == ("__debug__" : Str)) = false := by decide) (he : starEach (e :: es) X.env = (false, eval e X.env) :: starEach es X.env := by rfl) (hpl : (backTo pos (starEach es X.env)).any (·.1) = false := by rfl) :
    MX X B (.Call (.Name x p) (e :: es) [] pos) (wCall sp Em la) := peImp (pe_call F hr hg hm hk hb .nil hx ha hdb he hpl) fun σ H Q h => call_go h
theorem mx_call0 (F : FnM X.prog X.w X.K X.mg X.base CX k f fd ps sp) (hr : Room k X.A) (hm : X.mg x = some (.ref f)) (hk : PySem.W.keepIn X.K (.ref f) = true) (hb : Binds X.K fd ps []) (hx : Passes CX X (uX X.K B Em))
    (hg : Gl X x := by rfl) (hdb : (x == ("__debug__" : Str)) = false := by decide) :
    MX X B (.Call (.Name x p) [] [] pos) (wCall sp Em wNil) := peImp (pe_call0 F hr hg hm hk hb .nil hx hdb) fun σ H Q ⟨ρ, m, Qm, A, q, k⟩ => by
  exact ⟨[], m, Qm, Em, Reps.nil, A.r, q, k, fun C m' H' q2 r2 t2 => ⟨C, m', rfl, rfl, q2, r2, B.cl _ _ _ _ A.b t2⟩⟩
theorem pass0M {X : Cx} {E : XK} : Passes CX0 X E := fun _ _ _ _ _ _ _ h => h.elim

/-! ### a def keeps its promise -/
def stepB (m : Mem) (H : Hp) : Bs := ⟨fun m' H' => Step m H m' H', fun _ _ _ _ a b => a.trans b⟩
def startM (N : List Str) (ds : List D) : StM := ds.map some ++ List.replicate (N.length - ds.length) none
theorem ss_start {K : PySem.W.Frag} {H : Hp} (N : List Str) : ∀ {ds : List D} {vs : List V}, Reps K H ds vs → Ss K H (startM N ds) (L2.start N vs) := by
  intro ds vs h
  have e := h.length
  unfold startM L2.start
  rw [e]
  generalize N.length - vs.length = n
  clear e
  induction ds generalizing vs with
  | nil =>
    rw [Reps.nil_iff.mp h]
    induction n with
    | zero => exact .nil
    | succ n ih => exact .cons trivial ih
  | cons d ds ih =>
    obtain ⟨v, r, e, x, y⟩ := Reps.cons_iff.mp h
    subst e
    exact .cons x (ih y)
/-- what is handed back: some of the memory may be forgotten -/
def RtM (Q : KM) : KM := fun d m' => ∃ m0, Sub m0 m' ∧ Q d m0
theorem RtM.mk {Q : KM} {d : D} {m : Mem} (h : Q d m) : RtM Q d m := ⟨m, Sub.refl, h⟩
theorem fn_m {P : Program} {w : World} {K : PySem.W.Frag} {mg : Str → Option Value} {base : Heap} {qual : Str} {st : Stmt} {N : List Str} (F : Fun K x qual st f fd) (S : FnScope N ps (defScope st)) (len : ∀ ds m Q E, sp ds m Q E → ds.length = ps.length)
    (hbody : ∀ (cdv : Value) (A : Around) (outer : List Env) (s : Shared) (H : Hp) (ds : List D) (m : Mem) (Q : KM) (E : XM) (E' : XK), Room k (A.deeper (envOfC qual (defScope st) s.heap.objs.size f cdv)) → sp ds m Q E →
      ∃ p, MSs (cxOf CX0 P w K mg base N qual (defScope st) f cdv A outer s H E').nox (stepB m H) (defBody st) p ∧ p { nx := fun _ m' => RtM Q .non m', rt := RtM Q } (startM N ds) m) : FnM P w K mg base CX0 (k + 1) f fd ps sp := by
  refine F.ok S (fun vs H Q E ⟨ds, m, Qm, Em, x, r, q, _⟩ => by rw [← x.length]; exact len _ _ _ _ q) fun cdv A outer s H vs Q E hr ⟨ds, m, Qm, Em, x, r, q, k1, k2⟩ => ?_
  obtain ⟨p, hp, go⟩ := hbody cdv A outer s H ds m Qm Em E hr q
  refine ⟨_, hp, startM N ds, m, _, ⟨ss_start N x, r, Step.refl⟩, go, ?_, ?_, ?_, ?_⟩
  · intro ρ' m' σ' H' ⟨m0, sb, q'⟩ r' t' s'
    exact k1 _ _ _ _ q' (r'.sub sb) (t'.sub sb) Rep.non
  · intro d m' v H' ⟨m0, sb, q'⟩ r' t' x'
    exact k1 _ _ _ _ q' (r'.sub sb) (t'.sub sb) x'
  · intro ρ' m' σ' H' z; exact z.elim
  · intro ρ' m' σ' H' z; exact z.elim
end

/-! ### dicts -/
def kD : Key → D
  | .inl i => .int i
  | .inr x => .str x
theorem kD_rep {K : PySem.W.Frag} {H : Hp} {k : Key} {v : V} (h : Rep K H (kD k) v) : v = kV k := by
  cases k with
  | inl i => exact Rep.int_iff.mp h
  | inr x => exact Rep.str_iff.mp h
theorem rep_kD {K : PySem.W.Frag} {H : Hp} {k : Key} : Rep K H (kD k) (kV k) := by
  cases k with
  | inl i => exact Rep.int
  | inr x => exact Rep.str
theorem kDs_rep {K : PySem.W.Frag} {H : Hp} : ∀ {ks : List Key} {vs : List V}, Reps K H (ks.map kD) vs → vs = ks.map kV
  | [], _, h => by rw [Reps.nil_iff.mp h]; rfl
  | k :: ks, _, h => by
    obtain ⟨v, r, e, x, y⟩ := Reps.cons_iff.mp h
    rw [e, kD_rep x, kDs_rep y]; rfl
theorem reps_kDs {K : PySem.W.Frag} {H : Hp} : ∀ {ks : List Key}, Reps K H (ks.map kD) (ks.map kV)
  | [] => Reps.nil
  | k :: ks => Reps.cons rep_kD reps_kDs
section
variable {κ : Type} [DecidableEq κ]
def valD (kvs : List (κ × D)) (k : κ) : Option D := (kvs.find? fun kv => decide (kv.1 = k)).map (·.2)
def putD (kvs : List (κ × D)) (k : κ) (v : D) : List (κ × D) :=
  if (kvs.any fun kv => decide (kv.1 = k)) = true then kvs.map (fun kv => if kv.1 = k then (kv.1, v) else kv) else kvs ++ [(k, v)]
variable {K : PySem.W.Frag} {H : Hp}
theorem KVs.val {k : κ} : ∀ {a : List (κ × D)} {b : List (κ × V)}, KVs K H a b → (∀ d, valD a k = some d → ∃ v, valV b k = some v ∧ Rep K H d v) ∧ (valD a k = none → valV b k = none)
  | _, _, .nil => ⟨fun d e => by simp [valD] at e, fun _ => rfl⟩
  | _, _, .cons (a := p) (b := q) (l₁ := as) h r => by
    obtain ⟨i1, i2⟩ := KVs.val (k := k) r
    by_cases e : p.1 = k
    · have e' : q.1 = k := h.1 ▸ e
      refine ⟨fun d z => ?_, fun z => ?_⟩
      · simp [valD, List.find?_cons, e] at z
        subst z
        exact ⟨q.2, valV_pos e', h.2⟩
      · simp [valD, List.find?_cons, e] at z
    · have e' : ¬ q.1 = k := fun z => e (h.1.trans z)
      have z : valD (p :: as) k = valD as k := by simp [valD, List.find?_cons, e]
      rw [z, valV_neg e']
      exact ⟨i1, i2⟩
theorem KVs.length : ∀ {a : List (κ × D)} {b : List (κ × V)}, KVs K H a b → a.length = b.length
  | _, _, .nil => rfl
  | _, _, .cons h r => by simp [KVs.length r]
theorem KVs.put {k : κ} {d : D} {v : V} (hd : Rep K H d v) {a : List (κ × D)} {b : List (κ × V)} (h : KVs K H a b) : KVs K H (putD a k d) (putK b k v) := by
  have e1 : (a.any fun kv => decide (kv.1 = k)) = (b.any fun kv => decide (kv.1 = k)) := by
    induction h with
    | nil => rfl
    | cons h r ih => simp only [List.any_cons, h.1, ih]
  unfold putD putK
  rw [e1]
  split
  · rename_i hh
    clear e1 hh
    induction h with
    | nil => exact .nil
    | @cons p q as bs h r ih =>
      refine .cons ?_ ih
      by_cases e : p.1 = k
      · have e' : q.1 = k := h.1 ▸ e
        simp only [if_pos e, if_pos e']; exact ⟨h.1, hd⟩
      · have e' : ¬ q.1 = k := fun z => e (h.1.trans z)
        simp only [if_neg e, if_neg e']; exact h
  · rename_i hh
    clear e1 hh
    induction h with
    | nil => exact .cons ⟨rfl, hd⟩ .nil
    | cons h r ih => exact .cons h ih
end
/-- what the dict (an object) holds at the datum y -/
def getO (o : O) (y : D) (r : Option D) : Prop := match o with
  | .dK kvs => ∃ k, y = kD k ∧ r = valD kvs k
  | .dT kvs => ∃ ks : List Key, y = .tup (ks.map kD) ∧ ks.length ≠ 1 ∧ ks.length ≠ 5 ∧ r = valD kvs ks
  | _ => False
/-- the object behind a store -/
def putO (o : O) (y d : D) (o' : O) : Prop := match o with
  | .dK kvs => ∃ k, y = kD k ∧ kvs.length < sizeLine ∧ o' = .dK (putD kvs k d)
  | .dT kvs => ∃ ks : List Key, y = .tup (ks.map kD) ∧ ks.length ≠ 1 ∧ ks.length ≠ 5 ∧ kvs.length < sizeLine ∧ o' = .dT (putD kvs ks d)
  | _ => False
section
variable {K : PySem.W.Frag} {H : Hp} {m : Mem} {a : Addr} {o o' : O} {y d : D} {v z : V}
theorem tup_at {ks : List Key} (h : Rep K H (.tup (ks.map kD)) v) (h1 : ks.length ≠ 1) (h5 : ks.length ≠ 5) : ∃ b, v = .ref b ∧ H b = some (.tup (ks.map kV)) := by
  obtain ⟨b, xs, e, t, r⟩ := Rep.tup_iff.mp h
  rw [kDs_rep r] at t
  rcases t with t | ⟨n, _⟩
  · exact ⟨b, e, t⟩
  · rw [List.length_map] at n
    omega
theorem get_go {r : Option D} (rm : RM K H m) (e : rdM m a = some o) (g : getO o y r) (hy : Rep K H y v) : ∃ r', DGet H a v r' ∧ (∀ d, r = some d → ∃ w, r' = some w ∧ Rep K H d w) ∧ (r = none → r' = none) := by
  obtain ⟨u, h1, h2⟩ := rd_go rm e
  unfold getO at g
  split at g
  · obtain ⟨k, rfl, rfl⟩ := g
    obtain ⟨xs, rfl, kv⟩ := h2
    exact ⟨valV xs k, .inl ⟨xs, k, h1, kD_rep hy, rfl⟩, kv.val.1, kv.val.2⟩
  · obtain ⟨ks, rfl, n1, n5, rfl⟩ := g
    obtain ⟨xs, rfl, kv⟩ := h2
    obtain ⟨b, e1, e2⟩ := tup_at hy n1 n5
    exact ⟨valV xs ks, .inr ⟨xs, ks, b, h1, e1, e2, rfl⟩, kv.val.1, kv.val.2⟩
  · exact g.elim
theorem put_go (rm : RM K H m) (e : m a = some o) (g : putO o y d o') (hy : Rep K H y v) (hd : Rep K H d z) : ∃ u, DPut H a v z (upd H a u) ∧ RM K (upd H a u) (mput m a o') ∧ Step m H (mput m a o') (upd H a u) := by
  obtain ⟨u, h1, h2⟩ := rm a o e
  unfold putO at g
  split at g
  · obtain ⟨k, rfl, n, rfl⟩ := g
    obtain ⟨xs, rfl, kv⟩ := h2
    exact ⟨.dK (putK xs k z), .inl ⟨xs, k, h1, kD_rep hy, by rw [← kv.length]; exact n, rfl⟩, rm.put e trivial ⟨_, rfl, kv.put hd⟩, Step.put rm e trivial⟩
  · obtain ⟨ks, rfl, n1, n5, n, rfl⟩ := g
    obtain ⟨xs, rfl, kv⟩ := h2
    obtain ⟨b, e1, e2⟩ := tup_at hy n1 n5
    exact ⟨.dT (putK xs ks z), .inr ⟨xs, ks, b, h1, e1, e2, by rw [← kv.length]; exact n, rfl⟩, rm.put e trivial ⟨_, rfl, kv.put hd⟩, Step.put rm e trivial⟩
  · exact g.elim
end
section
variable {X : Cx} {B : Bs} {o i e f value : Expr} {st : Stmt} {pos pos' apos cpos : Pos} {pa pb pc : TEm}
/-- d[y] -/
def wGet : R2m := fun x y m Q => match x with
  | .ref a => ∃ o d, rdM m a = some o ∧ getO o y (some d) ∧ Q d m
  | _ => False
theorem mx_dget (hu : X.A.units + 1 < cLine) (ho : MX X B o pa) (hi : MX X B i pb) (hs : NoSl i := by exact fun _ _ => rfl) : MX X B (.Subscript o i pos) (wBin wGet pa pb) := peImp (pe_dget hu ho hi hs) fun σ H Q ⟨ρ, m, Qm, A, q, k⟩ => by
  refine ⟨ρ, m, _, A, q, fun x m1 v H1 q1 r1 t1 x1 => ?_⟩
  refine ⟨ρ, m1, _, A.step r1 t1, q1, fun y m2 w H2 q2 r2 t2 x2 => ?_⟩
  unfold wGet at q2
  split at q2
  · obtain ⟨ob, d, e1, g, q2⟩ := q2
    obtain ⟨r', g', h1, _⟩ := get_go r2 e1 g x2
    obtain ⟨w', e2, x3⟩ := h1 d rfl
    subst e2
    exact ⟨_, w', Rep.ref_iff.mp x1, g', k _ _ _ _ q2 r2 (t1.trans t2) x3⟩
  · exact q2.elim
def wDIn (neg : Bool) : R2m := fun y x m Q => match x with
  | .ref a => ∃ o r, rdM m a = some o ∧ getO o y r ∧ Q (.bl (if neg then !r.isSome else r.isSome)) m
  | _ => False
theorem din_go {neg : Bool} {y x : D} {m : Mem} {H : Hp} {v w : V} {Qm : KM} {Q : VK} {m0 : Mem} {H0 : Hp} (hy : Rep X.K H y v) (hx : Rep X.K H x w) (r : RM X.K H m) (q : wDIn neg y x m Qm) (t : Step m0 H0 m H) (k : ∀ d m' v H', Qm d m' → RM X.K H' m' → Step m0 H0 m' H' → Rep X.K H' d v → Q v H') :
    ∃ a o, w = .ref a ∧ DGet H a v o ∧ Q (.bl (if neg then !o.isSome else o.isSome)) H := by
  unfold wDIn at q
  split at q
  · obtain ⟨ob, ro, e1, g, q⟩ := q
    obtain ⟨r', g', h1, h2⟩ := get_go r e1 g hy
    have e : r'.isSome = ro.isSome := by
      cases ro with
      | none => rw [h2 rfl]; rfl
      | some d => obtain ⟨w', e2, _⟩ := h1 d rfl; rw [e2]; rfl
    exact ⟨_, r', Rep.ref_iff.mp hx, g', by rw [e]; exact k _ _ _ _ q r t Rep.bl⟩
  · exact q.elim
theorem pcDin {t : TE} {op : CmpOp} {a b : Expr} (h : PC X op a b t) {t' : TE} (i : ∀ σ H Q, t' σ H Q → t σ H Q) : PC X op a b t' := ⟨fun pins s σ H Q I q => h.run pins s σ H Q I (i _ _ _ q)⟩
theorem pc_in (hu : X.A.units + 1 < cLine) (hi : MX X B i pa) (ho : MX X B o pb) : PC X .In i o (uE X.K B (wBin (wDIn false) pa pb)) := pcDin (pc_din hu hi ho) fun σ H Q ⟨ρ, m, Qm, A, q, k⟩ => by
  refine ⟨ρ, m, _, A, q, fun y m1 v H1 q1 r1 t1 x1 => ⟨ρ, m1, _, A.step r1 t1, q1, fun x m2 w H2 q2 r2 t2 x2 => ?_⟩⟩
  exact din_go (x1.stay (t2.tups r1)) x2 r2 q2 (t1.trans t2) k
theorem pc_notin (hu : X.A.units + 1 < cLine) (hi : MX X B i pa) (ho : MX X B o pb) : PC X .NotIn i o (uE X.K B (wBin (wDIn true) pa pb)) := pcDin (pc_dnotin hu hi ho) fun σ H Q ⟨ρ, m, Qm, A, q, k⟩ => by
  refine ⟨ρ, m, _, A, q, fun y m1 v H1 q1 r1 t1 x1 => ⟨ρ, m1, _, A.step r1 t1, q1, fun x m2 w H2 q2 r2 t2 x2 => ?_⟩⟩
  exact din_go (neg := true) (x1.stay (t2.tups r1)) x2 r2 q2 (t1.trans t2) k
theorem mx_din (hu : X.A.units + 1 < cLine) (hi : MX X B i pa) (ho : MX X B o pb) (h1 : behindInMarks .In o = false := by rfl) : MX X B (.Compare i [.In] [o] pos) (wBin (wDIn false) pa pb) := pe_cmp (pc_in hu hi ho) h1
theorem mx_dnotin (hu : X.A.units + 1 < cLine) (hi : MX X B i pa) (ho : MX X B o pb) (h1 : behindInMarks .NotIn o = false := by rfl) : MX X B (.Compare i [.NotIn] [o] pos) (wBin (wDIn true) pa pb) := pe_cmp (pc_notin hu hi ho) h1
theorem tB_go {p : TEm} {σ : St} {H : Hp} {Q : Bool → Hp → Prop} (h : uT X.K B (wTest p) σ H Q) : tB (uE X.K B p) σ H Q := test_go (fun _ _ _ q => q) h
theorem mt_din (hu : X.A.units + 1 < cLine) (hi : MX X B i pa) (ho : MX X B o pb) (h1 : behindInMarks .In o = false := by rfl) : MT X B (.Compare i [.In] [o] pos) (wTest (wBin (wDIn false) pa pb)) := ptImp (pt_cmp (pc_in hu hi ho) h1) fun σ H Q h => tB_go h
theorem mt_dnotin (hu : X.A.units + 1 < cLine) (hi : MX X B i pa) (ho : MX X B o pb) (h1 : behindInMarks .NotIn o = false := by rfl) : MT X B (.Compare i [.NotIn] [o] pos) (wTest (wBin (wDIn true) pa pb)) := ptImp (pt_cmp (pc_notin hu hi ho) h1) fun σ H Q h => tB_go h
/-- d.get(y, z) -/
def isDO : O → Prop
  | .dK _ => True
  | .dT _ => True
  | _ => False
def wGet2 (pa pb pc : TEm) : TEm := fun ρ m Q => pa ρ m fun x m1 => refAt x fun a => (∃ o, rdM m1 a = some o ∧ isDO o) ∧ pb ρ m1 fun y m2 => pc ρ m2 fun z m3 => ∃ o r, rdM m3 a = some o ∧ getO o y r ∧ Q (r.getD z) m3
theorem mx_get2 (hu : X.A.units + 1 < cLine) (ho : MX X B o pa) (he : MX X B e pb) (hf : MX X B f pc) (M : M2 X o "get" apos e f cpos := by exact ⟨rfl, rfl, rfl, rfl⟩) : MX X B (.Call (.Attribute o "get" apos) [e, f] [] cpos) (wGet2 pa pb pc) := peImp (pe_dget2 hu ho he hf M) fun σ H Q ⟨ρ, m, Qm, A, q, k⟩ => by
  refine ⟨ρ, m, _, A, q, fun x m1 v H1 q1 r1 t1 x1 => ?_⟩
  unfold refAt at q1
  split at q1
  · rename_i a0
    obtain ⟨⟨ob, e0, hd⟩, q1⟩ := q1
    have isd : IsD H1 a0 := by
      obtain ⟨u, h1, h2⟩ := rd_go r1 e0
      unfold isDO at hd
      split at hd
      · obtain ⟨xs, rfl, _⟩ := h2; exact .inl ⟨xs, h1⟩
      · obtain ⟨xs, rfl, _⟩ := h2; exact .inr ⟨xs, h1⟩
      · exact hd.elim
    refine ⟨_, Rep.ref_iff.mp x1, isd, ρ, m1, _, A.step r1 t1, q1, fun y m2 w H2 q2 r2 t2 x2 => ?_⟩
    refine ⟨ρ, m2, _, (A.step r1 t1).step r2 t2, q2, fun z m3 u H3 q3 r3 t3 x3 => ?_⟩
    obtain ⟨ob, ro, e1, g, q3⟩ := q3
    obtain ⟨r', g', h1, h2⟩ := get_go r3 e1 g (x2.stay (t3.tups r2))
    refine ⟨r', g', ?_⟩
    have tt := t1.trans (t2.trans t3)
    cases ro with
    | none => rw [h2 rfl]; exact k _ _ _ _ q3 r3 tt x3
    | some d => obtain ⟨w', e2, x4⟩ := h1 d rfl; rw [e2]; exact k _ _ _ _ q3 r3 tt x4
  · exact q1.elim
/-- d[y] = v -/
def wPut (pa pb pc : TEm) : TSm := fun E ρ m => pc ρ m fun z m1 => pa ρ m1 fun x m2 => pb ρ m2 fun y m3 => refAt x fun a => ∃ o o', m3 a = some o ∧ putO o y z o' ∧ E.nx ρ (mput m3 a o')
theorem ms_dput (hu : X.A.units + 1 < cLine) (ho : MX X B o pa) (hi : MX X B i pb) (hv : MX X B value pc) (hs : swapsWith value (some (.Subscript o i pos')) pos.line X.env = pure false := by rfl) : MS X B (.Assign [.Subscript o i pos'] value pos) (wPut pa pb pc) :=
  psImp (ps_dput hu ho hi hv hs) fun D σ H ⟨ρ, m, E, A, q, n, _⟩ => by
  refine ⟨ρ, m, _, A, q, fun z m1 u H1 q1 r1 t1 x1 => ?_⟩
  refine ⟨ρ, m1, _, A.step r1 t1, q1, fun x m2 v H2 q2 r2 t2 x2 => ?_⟩
  refine ⟨ρ, m2, _, (A.step r1 t1).step r2 t2, q2, fun y m3 w H3 q3 r3 t3 x3 => ?_⟩
  have t23 := t2.trans t3
  unfold refAt at q3
  split at q3
  · obtain ⟨ob, ob', e1, g, q3⟩ := q3
    obtain ⟨uo, dp, rm, st⟩ := put_go r3 e1 g x3 (x1.stay (t23.tups r1))
    have t4 := t1.trans (t23.trans st)
    exact ⟨_, _, Rep.ref_iff.mp x2, dp, n _ _ _ _ q3 rm t4 (A.step rm t4).s⟩
  · exact q3.elim
theorem mx_dnewK : MX X B (.Dict [] [] pos) (fun _ m Q => newO (.dK []) m Q) := peImp pe_dnewK fun σ H Q ⟨ρ, m, Qm, A, q, k⟩ => new_go q A.r Step.refl ⟨[], rfl, .nil⟩ k
theorem mx_dnewT : MX X B (.Dict [] [] pos) (fun _ m Q => newO (.dT []) m Q) := peImp pe_dnewT fun σ H Q ⟨ρ, m, Qm, A, q, k⟩ => new_go q A.r Step.refl ⟨[], rfl, .nil⟩ k
end
end Mm
namespace Mm
open PySem L2
open PyProof.Rows (envOfC)

theorem hu1 {A : Around} {k : Nat} (hr : Room k A) : A.units + 1 < cLine := hu_of hr
theorem hu64 {A : Around} {k : Nat} (hr : Room k A) : A.units + 64 < cLine := hr.units
theorem hu65 {A : Around} {k : Nat} (hr : Room k A) : A.units + 65 < cLine := by have := hr.un; omega
section
variable {X : Cx} {B : Bs} {e a b c o i value : Expr} {es : List Expr} {pos pos' apos cpos : Pos} {pa pb pc : TEm} {la : TAm}

/-! ### a[b]: tuple, list, text, dict -/
def wSub : R2m := fun x y m Q => match x with
  | .tup ds => match y with
    | .int i => ∃ d, atI ds i = some d ∧ Q d m
    | _ => False
  | .str z => match y with
    | .int i => z.length ≤ sizeLine ∧ ∃ c, atI z.cps.toList i = some c ∧ Q (.str ⟨#[c]⟩) m
    | _ => False
  | .ref a => ∃ o, rdM m a = some o ∧ match o with
    | .lst ds => ∃ i d, y = .int i ∧ atI ds i = some d ∧ Q d m
    | o => ∃ d, getO o y (some d) ∧ Q d m
  | _ => False
def rDG : R2 := fun x y H Q => ∃ a v, x = .ref a ∧ DGet H a y (some v) ∧ Q v H
theorem ix_dict (hu : X.A.units + 1 < cLine) : IxR X rDG := by
  intro value slice pins s σ H x y v u Q I rx ry h hs
  obtain ⟨a, w, rfl, g, q⟩ := h
  obtain rfl : v = Value.ref a := rx
  exact PyProof.Rows.tail_any (dict_typeIs I g) PySem.F.slot_dict_getitem.lookup (d_getItem hu I g ry fun w' s3 I3 rw' => ⟨w, H, I3, rw', q⟩) hs
theorem mi_sub {k : Nat} (hr : Room k X.A) : MIx X wSub := mix_of (ix_seq.or (ix_dict (hu1 hr))) fun x y v w H m Q Qm hx hy r q k => by
  unfold wSub at q
  split at q
  · split at q
    · obtain ⟨d, e, q⟩ := q
      obtain ⟨a, xs, e1, s, rr⟩ := Rep.tup_iff.mp hx
      obtain ⟨v', e2, x2⟩ := atI_rep rr e
      exact .inl (.inr (.inl ⟨a, xs, _, v', e1, Rep.int_iff.mp hy, s.sq, e2, k _ _ _ _ q r Step.refl x2⟩))
    · exact q.elim
  · split at q
    · obtain ⟨z, c, e, q⟩ := q
      exact .inl (.inr (.inr ⟨_, _, c, Rep.str_iff.mp hx, Rep.int_iff.mp hy, z, e, k _ _ _ _ q r Step.refl Rep.str⟩))
    · exact q.elim
  · obtain ⟨o, e0, q⟩ := q
    split at q
    · obtain ⟨i, d, e3, e, q⟩ := q
      subst e3
      obtain ⟨xs, s, rr⟩ := rd_lst r e0
      obtain ⟨v', e2, x2⟩ := atI_rep rr e
      exact .inl (.inl ⟨_, xs, _, v', Rep.ref_iff.mp hx, Rep.int_iff.mp hy, s, e2, k _ _ _ _ q r Step.refl x2⟩)
    · obtain ⟨d, g, q⟩ := q
      obtain ⟨r', g', h1, _⟩ := get_go r e0 g hy
      obtain ⟨w', e2, x3⟩ := h1 d rfl
      subst e2
      exact .inr ⟨_, w', Rep.ref_iff.mp hx, g', k _ _ _ _ q r Step.refl x3⟩
  · exact q.elim

/-! ### a + b: ints, texts, tuples, lists -/
def wPlus : R2m := fun x y m Q => match x, y with
  | .int i, .int j => Q (.int (i + j)) m
  | .str i, .str j => i.length + j.length ≤ sizeLine ∧ Q (.str (i ++ j)) m
  | .tup ds, .tup es => ds.length + es.length ≤ sizeLine ∧ Q (.tup (ds ++ es)) m
  | .ref a, .ref b => ∃ ds es, m a = some (.lst ds) ∧ m b = some (.lst es) ∧ ds.length + es.length ≤ sizeLine ∧ newO (.lst (ds ++ es)) m Q
  | _, _ => False
theorem mo_plus : MOp X (binaryOp .Add) wPlus := mop_of (OpR.or op_add (OpR.or op_add_str (OpR.or op_catA op_cat))) fun x y v w H m Q Qm hx hy r q k => by
  unfold wPlus at q
  split at q
  · exact .inl ⟨_, _, Rep.int_iff.mp hx, Rep.int_iff.mp hy, k _ _ _ _ q r Step.refl Rep.int⟩
  · exact .inr (.inl ⟨_, _, Rep.str_iff.mp hx, Rep.str_iff.mp hy, q.1, k _ _ _ _ q.2 r Step.refl Rep.str⟩)
  · rename_i ds es
    obtain ⟨a, xs, e1, s1, r1⟩ := Rep.tup_iff.mp hx
    obtain ⟨b, ys, e2, s2, r2⟩ := Rep.tup_iff.mp hy
    have h1 := r1.length
    have h2 := r2.length
    refine .inr (.inr (.inl ⟨a, b, xs, ys, e1, e2, s1.sq, s2.sq, by rw [← h1, ← h2]; exact q.1, fun z => ?_, fun z1 z2 => ?_, fun z1 z2 p hp => ?_⟩))
    · subst z
      have : ds = [] := by cases ds with | nil => rfl | cons _ _ => simp at h1
      subst this
      exact k _ _ _ _ q.2 r Step.refl (by rw [← e2]; exact hy)
    · subst z2
      have : es = [] := by cases es with | nil => rfl | cons _ _ => simp at h2
      subst this
      exact k _ _ _ _ q.2 r Step.refl (by rw [List.append_nil, ← e1]; exact hx)
    · exact k _ _ _ _ q.2 (r.hid hp) (Step.hid r hp) (Rep.tup_iff.mpr ⟨p, _, rfl, TupAt.of upd_same, (r1.append r2).stay ((Step.hid (u := .tup (xs ++ ys)) r hp).tups r)⟩)
  · obtain ⟨ds, es, e1, e2, z, q⟩ := q
    obtain ⟨u1, h1, xs, rfl, r1⟩ := r _ _ e1
    obtain ⟨u2, h2, ys, rfl, r2⟩ := r _ _ e2
    exact .inr (.inr (.inr ⟨_, _, xs, ys, Rep.ref_iff.mp hx, Rep.ref_iff.mp hy, h1, h2, by rw [← r1.length, ← r2.length]; exact z, new_go q r Step.refl ⟨_, rfl, r1.append r2⟩ k⟩))
  · exact q.elim

/-! ### a * b: ints (below a million bits), a text and an int -/
def wTimes : R2m := fun x y m Q => match x, y with
  | .int i, .int j => (CMul i j ∨ CMulW i j) ∧ Q (.int (i * j)) m
  | .str s, .int n => MulOk s n ∧ Q (.str (Txt.mul s n)) m
  | _, _ => False
theorem op_mulS : OpR X (binaryOp .Mult) (fun x y H Q => ∃ s n, x = .str s ∧ y = .int n ∧ MulOk s n ∧ Q (.str (Txt.mul s n)) H) := by
  intro pins s σ H x y v u Q I rx ry h
  obtain ⟨z, n, rfl, rfl, ok, q⟩ := h
  obtain ⟨t, rfl⟩ := rx
  obtain ⟨t', rfl⟩ := ry
  exact PySem.SB.mul ok fun t'' k => ⟨.str _, H, I.tok _, ⟨_, rfl⟩, q⟩
theorem mo_times : MOp X (binaryOp .Mult) wTimes := mop_of (OpR.or op_mul (OpR.or op_mulW op_mulS)) fun x y v w H m Q Qm hx hy r q k => by
  unfold wTimes at q
  split at q
  · rcases q.1 with z | z
    · exact .inl ⟨_, _, Rep.int_iff.mp hx, Rep.int_iff.mp hy, z, k _ _ _ _ q.2 r Step.refl Rep.int⟩
    · exact .inr (.inl ⟨_, _, Rep.int_iff.mp hx, Rep.int_iff.mp hy, z, k _ _ _ _ q.2 r Step.refl Rep.int⟩)
  · exact .inr (.inr ⟨_, _, Rep.str_iff.mp hx, Rep.int_iff.mp hy, q.1, k _ _ _ _ q.2 r Step.refl Rep.str⟩)
  · exact q.elim

/-! ### deep equality: a datum as it is read in a memory -/
mutual
inductive Vw (m : Mem) : D → PyData → Prop
  | non : Vw m .non .none
  | bl (b : Bool) : Vw m (.bl b) (.bool b)
  | int (i : Int) : Vw m (.int i) (.int i)
  | str (x : Str) : Vw m (.str x) (.str x)
  | tup {ds : List D} {ts : List PyData} : VwA m ds ts → Vw m (.tup ds) (.tuple ts)
  | lst {a : Addr} {ds : List D} {ts : List PyData} : rdM m a = some (.lst ds) → VwA m ds ts → Vw m (.ref a) (.list ts)
inductive VwA (m : Mem) : List D → List PyData → Prop
  | nil : VwA m [] []
  | cons {d : D} {ds : List D} {t : PyData} {ts : List PyData} : Vw m d t → VwA m ds ts → VwA m (d :: ds) (t :: ts)
end
mutual
theorem Vw.dp {K : PySem.W.Frag} {H : Hp} {m : Mem} (r : RM K H m) : ∀ (t : PyData) (d : D) (v : V), Vw m d t → Rep K H d v → Dp K H v t
  | .none, _, _, h, x => by cases h; rw [Rep.non_iff.mp x]; exact .non
  | .bool b, _, _, h, x => by cases h; rw [Rep.bl_iff.mp x]; exact .bl b
  | .int i, _, _, h, x => by cases h; rw [Rep.int_iff.mp x]; exact .int i
  | .str z, _, _, h, x => by cases h; rw [Rep.str_iff.mp x]; exact .str z
  | .tuple ts, _, _, h, x => by
    cases h with
    | tup h =>
      obtain ⟨a, xs, rfl, s, rr⟩ := Rep.tup_iff.mp x
      exact .tup s.sq (VwA.dp r ts _ _ h rr)
  | .list ts, _, _, h, x => by
    cases h with
    | lst e h =>
      obtain ⟨xs, s, rr⟩ := rd_lst r e
      rw [Rep.ref_iff.mp x]
      exact .lst s (VwA.dp r ts _ _ h rr)
  | .dict _, _, _, h, _ => by cases h
theorem VwA.dp {K : PySem.W.Frag} {H : Hp} {m : Mem} (r : RM K H m) : ∀ (ts : List PyData) (ds : List D) (vs : List V), VwA m ds ts → Reps K H ds vs → DpAll K H vs ts
  | [], _, _, h, x => by cases h; rw [Reps.nil_iff.mp x]; exact .nil
  | t :: ts, _, _, h, x => by
    cases h with
    | cons h1 h2 =>
      obtain ⟨v, w, rfl, y, z⟩ := Reps.cons_iff.mp x
      exact .cons (Vw.dp r t _ _ h1 y) (VwA.dp r ts _ _ h2 z)
end
/-- two dicts of the same flat things under the same keys -/
def SameD (m : Mem) (a b : Addr) : Prop := ∃ ks ls : List (Key × D), m a = some (.dK ks) ∧ m b = some (.dK ls) ∧ ks.length = ls.length ∧ ∀ p ∈ ks, valD ls p.1 = some p.2 ∧ ((∃ i, p.2 = .int i) ∨ ∃ x, p.2 = .str x)
/-- x == y gives k -/
def EqB (m : Mem) (x y : D) (k : Bool) : Prop :=
  scD x y = some k ∨ (∃ t u, Vw m x t ∧ Vw m y u ∧ SeqAt.shaped t = true ∧ SeqAt.shaped u = true ∧ k = PyData.eqv t u) ∨ (k = true ∧ ∃ a b, x = .ref a ∧ y = .ref b ∧ SameD m a b)
theorem kvs_same {K : PySem.W.Frag} {H : Hp} {m : Mem} {a b : Addr} (r : RM K H m) (h : SameD m a b) : ∃ ks ls, H a = some (.dK ks) ∧ H b = some (.dK ls) ∧ ks.length = ls.length ∧ ∀ p ∈ ks, valV ls p.1 = some p.2 ∧ flatB p.2 = true := by
  obtain ⟨ks, ls, e1, e2, hl, h⟩ := h
  obtain ⟨u1, h1, xs, rfl, r1⟩ := r _ _ e1
  obtain ⟨u2, h2, ys, rfl, r2⟩ := r _ _ e2
  refine ⟨xs, ys, h1, h2, by rw [← r1.length, ← r2.length]; exact hl, ?_⟩
  clear e1 hl h1
  induction r1 with
  | nil => intro p hp; simp at hp
  | @cons p q ps qs z zs ih =>
    intro p' hp'
    rcases List.mem_cons.mp hp' with e | hm
    · subst e
      obtain ⟨v1, v2⟩ := h p List.mem_cons_self
      obtain ⟨w, hw, rw'⟩ := r2.val.1 _ v1
      have e3 : w = p'.2 := by
        have z2 := z.2
        rcases v2 with ⟨i, e⟩ | ⟨x, e⟩
        · rw [e] at z2 rw'; rw [Rep.int_iff.mp z2, Rep.int_iff.mp rw']
        · rw [e] at z2 rw'; rw [Rep.str_iff.mp z2, Rep.str_iff.mp rw']
      refine ⟨by rw [← z.1, hw, e3], ?_⟩
      have z2 := z.2
      rcases v2 with ⟨i, e⟩ | ⟨x, e⟩
      · rw [e] at z2; rw [Rep.int_iff.mp z2]; rfl
      · rw [e] at z2; rw [Rep.str_iff.mp z2]; rfl
    · exact ih (fun p hp => h p (List.mem_cons_of_mem _ hp)) p' hm
def wEqq : R2m := fun x y m Q => ∃ k, EqB m x y k ∧ Q (.bl k) m
def wNeq : R2m := fun x y m Q => ∃ k, EqB m x y k ∧ Q (.bl (!k)) m
theorem mo_eqq {k : Nat} (hr : Room k X.A) : MOp X (compareOp .Eq) wEqq := mop_of (OpR.or op_eq (OpR.or (op_eqD (hu64 hr)) (op_eq_dictA (hr.units0)))) fun x y v w H m Q Qm hx hy r q k => by
  obtain ⟨b, h, q⟩ := q
  have fin := k _ _ _ _ q r Step.refl Rep.bl
  rcases h with h | ⟨t, u, h1, h2, s1, s2, e⟩ | ⟨e, a, c, rfl, rfl, h⟩
  · obtain ⟨z1, z2⟩ := scD_of hx hy h
    exact .inl ⟨z1, by rw [z2]; exact fin⟩
  · exact .inr (.inl ⟨t, u, h1.dp r _ _ _ hx, h2.dp r _ _ _ hy, s1, s2, by rw [← e]; exact fin⟩)
  · subst e
    obtain ⟨ks, ls, z1, z2, z3, z4⟩ := kvs_same r h
    exact .inr (.inr ⟨_, _, ks, ls, Rep.ref_iff.mp hx, Rep.ref_iff.mp hy, z1, z2, z3, z4, fin⟩)
theorem mo_neq {k : Nat} (hr : Room k X.A) : MOp X (compareOp .NotEq) wNeq := mop_of (OpR.or op_ne (OpR.or (op_neD (hu64 hr)) (op_ne_dictA (hr.units0)))) fun x y v w H m Q Qm hx hy r q k => by
  obtain ⟨b, h, q⟩ := q
  have fin := k _ _ _ _ q r Step.refl Rep.bl
  rcases h with h | ⟨t, u, h1, h2, s1, s2, e⟩ | ⟨e, a, c, rfl, rfl, h⟩
  · obtain ⟨z1, z2⟩ := scD_of hx hy h
    exact .inl ⟨z1, by rw [z2]; exact fin⟩
  · exact .inr (.inl ⟨t, u, h1.dp r _ _ _ hx, h2.dp r _ _ _ hy, s1, s2, by rw [← e]; exact fin⟩)
  · subst e
    obtain ⟨ks, ls, z1, z2, z3, z4⟩ := kvs_same r h
    exact .inr (.inr ⟨_, _, ks, ls, Rep.ref_iff.mp hx, Rep.ref_iff.mp hy, z1, z2, z3, z4, fin⟩)

/-! ### built-ins -/
def wMax2 : RLm := fun ds m Q => match ds with
  | [.int i, .int j] => Q (.int (if j > i then j else i)) m
  | _ => False
def wMin2 : RLm := fun ds m Q => match ds with
  | [.int i, .int j] => Q (.int (if j < i then j else i)) m
  | _ => False
theorem mc_max2 (hc : X.calm = true := by rfl) : MCall X (.builtin "max") wMax2 := mcall_of (call_max2 hc) fun ds vs H m Q Qm hx r q k => by
  unfold wMax2 at q; split at q
  · obtain ⟨v, w, e, x, y⟩ := reps2 hx
    rw [Rep.int_iff.mp x, Rep.int_iff.mp y] at e
    exact ⟨_, _, e, k _ _ _ _ q r Step.refl Rep.int⟩
  · exact q.elim
theorem mc_min2 (hc : X.calm = true := by rfl) : MCall X (.builtin "min") wMin2 := mcall_of (call_min2 hc) fun ds vs H m Q Qm hx r q k => by
  unfold wMin2 at q; split at q
  · obtain ⟨v, w, e, x, y⟩ := reps2 hx
    rw [Rep.int_iff.mp x, Rep.int_iff.mp y] at e
    exact ⟨_, _, e, k _ _ _ _ q r Step.refl Rep.int⟩
  · exact q.elim
def wAbs : RLm := fun ds m Q => match ds with
  | [.int i] => Q (.int (if i < 0 then -i else i)) m
  | _ => False
theorem mc_abs1 : MCall X (.builtin "abs") wAbs := mcall_of call_abs fun ds vs H m Q Qm hx r q k => by
  unfold wAbs at q; split at q
  · obtain ⟨v, e, x⟩ := reps1 hx
    rw [Rep.int_iff.mp x] at e
    exact ⟨_, e, k _ _ _ _ q r Step.refl Rep.int⟩
  · exact q.elim
def wInt1 : RLm := fun ds m Q => match ds with
  | [.int i] => Q (.int i) m
  | [.bl b] => Q (.int (if b then 1 else 0)) m
  | _ => False
theorem mc_int1 : MCall X (.type "int") wInt1 := mcall_of call_int1 fun ds vs H m Q Qm hx r q k => by
  unfold wInt1 at q; split at q
  · obtain ⟨v, e, x⟩ := reps1 hx
    rw [Rep.int_iff.mp x] at e
    exact .inl ⟨_, e, k _ _ _ _ q r Step.refl Rep.int⟩
  · obtain ⟨v, e, x⟩ := reps1 hx
    rw [Rep.bl_iff.mp x] at e
    exact .inr ⟨_, e, k _ _ _ _ q r Step.refl Rep.int⟩
  · exact q.elim
def wLen1 : RLm := fun ds m Q => match ds with
  | [.str z] => z.length ≤ sizeLine ∧ Q (.int z.length) m
  | [.tup ds] => Q (.int ds.length) m
  | [.ref a] => (∃ ds, rdM m a = some (.lst ds) ∧ Q (.int ds.length) m) ∨ ∃ kvs, m a = some (.dK kvs) ∧ Q (.int kvs.length) m
  | _ => False
theorem mc_len1 : MCall X (.builtin "len") wLen1 := mcall_of (CallR.or call_len call_lenD) fun ds vs H m Q Qm hx r q k => by
  unfold wLen1 at q; split at q
  · obtain ⟨v, e, x⟩ := reps1 hx
    rw [Rep.str_iff.mp x] at e
    exact .inl ⟨_, _, e, ⟨q.1, rfl⟩, k _ _ _ _ q.2 r Step.refl Rep.int⟩
  · obtain ⟨v, e, x⟩ := reps1 hx
    obtain ⟨a, xs, e1, s, rr⟩ := Rep.tup_iff.mp x
    exact .inl ⟨.ref a, _, by rw [e, e1], Or.inr ⟨xs, s.sq, rr.length⟩, k _ _ _ _ q r Step.refl Rep.int⟩
  · obtain ⟨v, e, x⟩ := reps1 hx
    rw [Rep.ref_iff.mp x] at e
    rcases q with ⟨ds, e1, q⟩ | ⟨kvs, e1, q⟩
    · obtain ⟨xs, s, rr⟩ := rd_lst r e1
      exact .inl ⟨.ref _, _, e, Or.inl ⟨xs, s, rr.length⟩, k _ _ _ _ q r Step.refl Rep.int⟩
    · obtain ⟨u, h1, xs, rfl, rr⟩ := r _ _ e1
      exact .inr ⟨_, xs, e, h1, by rw [← rr.length]; exact k _ _ _ _ q r Step.refl Rep.int⟩
  · exact q.elim
/-- list(x): a list, a tuple, a dict's keys -/
def wList1 : RLm := fun ds m Q => match ds with
  | [.tup ds] => newO (.lst ds) m Q
  | [.ref a] => (∃ ds, rdM m a = some (.lst ds) ∧ newO (.lst ds) m Q) ∨ ∃ kvs, m a = some (.dK kvs) ∧ newO (.lst (kvs.map fun p => kD p.1)) m Q
  | _ => False
theorem mc_list1 (hc : X.calm = true := by rfl) : MCall X (.type "list") wList1 := mcall_of (CallR.or call_list_of (call_list_dK hc)) fun ds vs H m Q Qm hx r q k => by
  unfold wList1 at q; split at q
  · obtain ⟨v, e, x⟩ := reps1 hx
    obtain ⟨a, xs, e1, s, rr⟩ := Rep.tup_iff.mp x
    exact .inl ⟨_, _, by rw [e, e1], .inr s.sq, new_go q r Step.refl ⟨_, rfl, rr⟩ k⟩
  · obtain ⟨v, e, x⟩ := reps1 hx
    rw [Rep.ref_iff.mp x] at e
    rcases q with ⟨ds, e1, q⟩ | ⟨kvs, e1, q⟩
    · obtain ⟨xs, s, rr⟩ := rd_lst r e1
      exact .inl ⟨_, _, e, .inl s, new_go q r Step.refl ⟨_, rfl, rr⟩ k⟩
    · obtain ⟨u, h1, xs, rfl, rr⟩ := r _ _ e1
      refine .inr ⟨_, xs, e, h1, new_go q r Step.refl ⟨_, rfl, ?_⟩ k⟩
      clear e1 q h1
      induction rr with
      | nil => exact Reps.nil
      | cons h _ ih => exact Reps.cons (by show Rep X.K H (kD _) (kV _); rw [h.1]; exact rep_kD) ih
  · exact q.elim
/-- tuple(x): a list, a tuple -/
def wTuple1 : RLm := fun ds m Q => match ds with
  | [.tup ds] => Q (.tup ds) m
  | [.ref a] => ∃ ds, rdM m a = some (.lst ds) ∧ Q (.tup ds) m
  | _ => False
theorem mc_tuple1 : MCall X (.type "tuple") wTuple1 := mcall_of call_tuple_of fun ds vs H m Q Qm hx r q k => by
  unfold wTuple1 at q; split at q
  · obtain ⟨v, e, x⟩ := reps1 hx
    obtain ⟨a, xs, e1, s, rr⟩ := Rep.tup_iff.mp x
    exact ⟨_, _, by rw [e, e1], .inr ⟨s.sq, k _ _ _ _ q r Step.refl (by rw [← e1]; exact x)⟩⟩
  · obtain ⟨v, e, x⟩ := reps1 hx
    rw [Rep.ref_iff.mp x] at e
    obtain ⟨ds, e1, q⟩ := q
    obtain ⟨xs, s, rr⟩ := rd_lst r e1
    exact ⟨_, _, e, .inl ⟨s, fun l hl => k _ _ _ _ q (r.hid hl) (Step.hid r hl) (Rep.tup_iff.mpr ⟨l, _, rfl, TupAt.of upd_same, rr.stay ((Step.hid (u := .tup xs) r hl).tups r)⟩)⟩⟩
  · exact q.elim
theorem reps_bls {K : PySem.W.Frag} {H : Hp} : ∀ {bs : List Bool} {vs : List V}, Reps K H (bs.map .bl) vs → vs = bs.map .bl
  | [], _, h => by rw [Reps.nil_iff.mp h]; rfl
  | k :: ks, _, h => by
    obtain ⟨v, r, e, x, y⟩ := Reps.cons_iff.mp h
    rw [e, Rep.bl_iff.mp x, reps_bls y]; rfl
theorem reps_intsV {K : PySem.W.Frag} {H : Hp} : ∀ {bs : List Int} {vs : List V}, Reps K H (bs.map .int) vs → vs = bs.map .int
  | [], _, h => by rw [Reps.nil_iff.mp h]; rfl
  | k :: ks, _, h => by
    obtain ⟨v, r, e, x, y⟩ := Reps.cons_iff.mp h
    rw [e, Rep.int_iff.mp x, reps_intsV y]; rfl
def wAll1 : RLm := fun ds m Q => match ds with
  | [.ref a] => ∃ bs : List Bool, rdM m a = some (.lst (bs.map .bl)) ∧ Q (.bl (bs.all id)) m
  | _ => False
theorem mc_all1 (hc : X.calm = true := by rfl) : MCall X (.builtin "all") wAll1 := mcall_of (cr_all hc) fun ds vs H m Q Qm hx r q k => by
  unfold wAll1 at q; split at q
  · obtain ⟨v, e, x⟩ := reps1 hx
    rw [Rep.ref_iff.mp x] at e
    obtain ⟨bs, e1, q⟩ := q
    obtain ⟨xs, s, rr⟩ := rd_lst r e1
    rw [reps_bls rr] at s
    exact ⟨_, bs, e, s, k _ _ _ _ q r Step.refl Rep.bl⟩
  · exact q.elim
def wSum1 : RLm := fun ds m Q => match ds with
  | [.ref a] => ∃ ns : List Int, rdM m a = some (.lst (ns.map .int)) ∧ Q (.int ns.sum) m
  | _ => False
theorem mc_sum1 (hc : X.calm = true := by rfl) : MCall X (.builtin "sum") wSum1 := mcall_of (cr_sum hc) fun ds vs H m Q Qm hx r q k => by
  unfold wSum1 at q; split at q
  · obtain ⟨v, e, x⟩ := reps1 hx
    rw [Rep.ref_iff.mp x] at e
    obtain ⟨bs, e1, q⟩ := q
    obtain ⟨xs, s, rr⟩ := rd_lst r e1
    rw [reps_intsV rr] at s
    exact ⟨_, bs, e, s, k _ _ _ _ q r Step.refl Rep.int⟩
  · exact q.elim
def wMaxL : RLm := fun ds m Q => match ds with
  | [.ref a] => ∃ ns : List Int, rdM m a = some (.lst (ns.map .int)) ∧ 0 < ns.length ∧ ∀ n, n ∈ ns → (∀ y, y ∈ ns → y ≤ n) → Q (.int n) m
  | _ => False
theorem mc_max1 (hc : X.calm = true := by rfl) : MCall X (.builtin "max") wMaxL := mcall_of (cr_max hc) fun ds vs H m Q Qm hx r q k => by
  unfold wMaxL at q; split at q
  · obtain ⟨v, e, x⟩ := reps1 hx
    rw [Rep.ref_iff.mp x] at e
    obtain ⟨bs, e1, n, q⟩ := q
    obtain ⟨xs, s, rr⟩ := rd_lst r e1
    rw [reps_intsV rr] at s
    exact ⟨_, bs, e, s, n, fun z h1 h2 => k _ _ _ _ (q z h1 h2) r Step.refl Rep.int⟩
  · exact q.elim
def wMinL : RLm := fun ds m Q => match ds with
  | [.ref a] => ∃ ns : List Int, rdM m a = some (.lst (ns.map .int)) ∧ 0 < ns.length ∧ ∀ n, n ∈ ns → (∀ y, y ∈ ns → n ≤ y) → Q (.int n) m
  | _ => False
theorem mc_min1 (hc : X.calm = true := by rfl) : MCall X (.builtin "min") wMinL := mcall_of (cr_min hc) fun ds vs H m Q Qm hx r q k => by
  unfold wMinL at q; split at q
  · obtain ⟨v, e, x⟩ := reps1 hx
    rw [Rep.ref_iff.mp x] at e
    obtain ⟨bs, e1, n, q⟩ := q
    obtain ⟨xs, s, rr⟩ := rd_lst r e1
    rw [reps_intsV rr] at s
    exact ⟨_, bs, e, s, n, fun z h1 h2 => k _ _ _ _ (q z h1 h2) r Step.refl Rep.int⟩
  · exact q.elim

/-! ### isinstance of a built-in type -/
def tyD (m : Mem) : D → Option String
  | .non => some "NoneType"
  | .bl _ => some "bool"
  | .int _ => some "int"
  | .str _ => some "str"
  | .tup _ => some "tuple"
  | .ref a => match m a with
    | some (.lst _) => some "list"
    | some (.dK _) => some "dict"
    | some (.dT _) => some "dict"
    | some (.frz (.lst _)) => some "list"
    | _ => none
  | _ => none
/-- isinstance(x, T) -/
def isiB (t T : String) : Bool := t == T || (t == "bool" && T == "int")
def tys : List String := ["NoneType", "bool", "int", "str", "tuple", "list", "dict"]
theorem kit_tys : (tys.all fun t => tys.all fun T => kitB t T == some (isiB t T)) = true := by decide +kernel
theorem kit_of_tys {t T : String} (h : t ∈ tys) (h' : T ∈ tys) : kitB t T = some (isiB t T) := by
  have := List.all_eq_true.mp (List.all_eq_true.mp kit_tys t h) T h'
  exact eq_of_beq this
theorem tyX_of {K : PySem.W.Frag} {H : Hp} {m : Mem} {d : D} {v : V} {t : String} (r : RM K H m) (x : Rep K H d v) (h : tyD m d = some t) : TyX K H v (.type t) ∧ t ∈ tys := by
  unfold tyD at h
  split at h
  · cases h; rw [Rep.non_iff.mp x]; exact ⟨.base .non, by decide⟩
  · cases h; rw [Rep.bl_iff.mp x]; exact ⟨.base (.bl _), by decide⟩
  · cases h; rw [Rep.int_iff.mp x]; exact ⟨.base (.int _), by decide⟩
  · cases h; rw [Rep.str_iff.mp x]; exact ⟨.base (.str _), by decide⟩
  · cases h
    obtain ⟨a, xs, rfl, s, rr⟩ := Rep.tup_iff.mp x
    refine ⟨?_, by decide⟩
    rcases s.sq with (s | ⟨ob, s⟩) | ⟨o, its, n, s, hc, _⟩
    · exact .base (.tup s)
    · exact .fTuple s
    · exact .kTuple s hc
  · rw [Rep.ref_iff.mp x]
    split at h
    · rename_i e; cases h; obtain ⟨u, h1, xs, rfl, _⟩ := r _ _ e; exact ⟨.base (.lst h1), by decide⟩
    · rename_i e; cases h; obtain ⟨u, h1, xs, rfl, _⟩ := r _ _ e; exact ⟨.base (.dK h1), by decide⟩
    · rename_i e; cases h; obtain ⟨u, h1, xs, rfl, _⟩ := r _ _ e; exact ⟨.base (.dT h1), by decide⟩
    · rename_i e; cases h; obtain ⟨u, h1, ob, w, rfl, xs, rfl, _⟩ := r _ _ e; exact ⟨.base (.frz h1), by decide⟩
    · cases h
  · cases h
def wIsi : RLm := fun ds m Q => match ds with
  | [x, .ty T] => ∃ t, tyD m x = some t ∧ T ∈ tys ∧ Q (.bl (isiB t T)) m
  | _ => False
theorem mc_isinstance2 : MCall X (.builtin "isinstance") wIsi := mcall_of call_isi fun ds vs H m Q Qm hx r q k => by
  unfold wIsi at q; split at q
  · obtain ⟨v, w, e, x, y⟩ := reps2 hx
    rw [Rep.ty_iff.mp y] at e
    obtain ⟨t, h1, h2, q⟩ := q
    obtain ⟨z1, z2⟩ := tyX_of r x h1
    exact ⟨v, _, _, _, _, e, ClsV.ty _, z1, kit_ty (kit_of_tys z2 h2), k _ _ _ _ q r Step.refl Rep.bl⟩
  · exact q.elim
/-- a built-in type as a value -/
theorem mx_ty {x : Str} {T : String} (hm : X.mg x = none) (hg : Gl X x := by rfl) (hv : bootBuiltins x = some (.type T) := by decide +kernel) (hn : x ≠ "__name__" := by decide) (hd : (x == ("__debug__" : Str)) = false := by decide) : MX X B (.Name x pos) (wC (.ty T)) :=
  mxC (v := .ty T) (pe_bltn hg hm hv rfl hn hd) fun _ => Rep.ty

/-! ### methods of lists -/
def wApp (pa pb : TEm) : TEm := fun ρ m Q => pa ρ m fun x m1 => refAt x fun a => (∃ ds, rdM m1 a = some (.lst ds)) ∧ pb ρ m1 fun y m2 => ∃ ds, m2 a = some (.lst ds) ∧ ds.length < sizeLine ∧ Q .non (mput m2 a (.lst (ds ++ [y])))
theorem list_ty {K : PySem.W.Frag} {H : Hp} {a : Addr} {m : Mem} (r : RM K H m) (h : ∃ ds, rdM m a = some (.lst ds)) : tyV K "list" (.ref a) H := by
  obtain ⟨ds, e⟩ := h
  obtain ⟨xs, s, _⟩ := rd_lst r e
  exact .inl ⟨rfl, xs, s⟩
theorem mx_append (ho : MX X B o pa) (he : MX X B e pb) (hbase : attributeBase o "append" X.env (eval o X.env) = eval o X.env := by rfl)
    (hfew : ((backTo cpos (starEach (e :: []) X.env)).all (fun x => !x.1) && (backToKw cpos (keywordEach [] X.env)).all (fun x => x.1.isSome)
      && decide ((e :: ([] : List Expr)).length + ([] : List Keyword).length + (if ([] : List Keyword).isEmpty then 0 else 1) < 30)) = true := by rfl)
    (hline : (apos.endLine == cpos.line) = true := by rfl) (hs : starEach (e :: []) X.env = (false, eval e X.env) :: starEach [] X.env := by rfl) (hplain : (backTo cpos (starEach [] X.env)).any (·.1) = false := by rfl) :
    MX X B (.Call (.Attribute o "append" apos) [e] [] cpos) (wApp pa pb) :=
  peImp (pe_bm PySem.F.plainAttrs_list PySem.F.slot_list_append PySem.F.type_list_append mt_append ho (pa_cons he pa_nil hs) hbase hfew hline hs hplain) fun σ H Q ⟨ρ, m, Qm, A, q, k⟩ => by
    refine ⟨ρ, m, _, A, q, fun x m1 v H1 q1 r1 t1 x1 => ?_⟩
    unfold refAt at q1
    split at q1
    · obtain ⟨tl, q1⟩ := q1
      rw [Rep.ref_iff.mp x1]
      refine ⟨list_ty r1 tl, ρ, m1, _, A.step r1 t1, q1, fun y m2 w H2 q2 r2 t2 x2 => ?_⟩
      obtain ⟨ds, e1, z, q2⟩ := q2
      obtain ⟨u, h1, xs, rfl, rr⟩ := r2 _ _ e1
      refine ⟨_, xs, w, rfl, rfl, h1, by rw [← rr.length]; exact z, ?_⟩
      exact k _ _ _ _ q2 (r2.put e1 trivial ⟨_, rfl, rr.append (Reps.cons x2 Reps.nil)⟩) (t1.trans (t2.trans (Step.put r2 e1 trivial))) Rep.non
    · exact q1.elim
def wExt (pa pb : TEm) : TEm := fun ρ m Q => pa ρ m fun x m1 => refAt x fun a => (∃ ds, rdM m1 a = some (.lst ds)) ∧ pb ρ m1 fun y m2 => ∃ ds b es, y = .ref b ∧ m2 a = some (.lst ds) ∧ m2 b = some (.lst es) ∧ ds.length + es.length ≤ sizeLine ∧ Q .non (mput m2 a (.lst (ds ++ es)))
theorem mx_extend (ho : MX X B o pa) (he : MX X B e pb) (hbase : attributeBase o "extend" X.env (eval o X.env) = eval o X.env := by rfl)
    (hfew : ((backTo cpos (starEach (e :: []) X.env)).all (fun x => !x.1) && (backToKw cpos (keywordEach [] X.env)).all (fun x => x.1.isSome)
      && decide ((e :: ([] : List Expr)).length + ([] : List Keyword).length + (if ([] : List Keyword).isEmpty then 0 else 1) < 30)) = true := by rfl)
    (hline : (apos.endLine == cpos.line) = true := by rfl) (hs : starEach (e :: []) X.env = (false, eval e X.env) :: starEach [] X.env := by rfl) (hplain : (backTo cpos (starEach [] X.env)).any (·.1) = false := by rfl) :
    MX X B (.Call (.Attribute o "extend" apos) [e] [] cpos) (wExt pa pb) :=
  peImp (pe_bm PySem.F.plainAttrs_list PySem.F.slot_list_extend PySem.F.type_list_extend mt_extend ho (pa_cons he pa_nil hs) hbase hfew hline hs hplain) fun σ H Q ⟨ρ, m, Qm, A, q, k⟩ => by
    refine ⟨ρ, m, _, A, q, fun x m1 v H1 q1 r1 t1 x1 => ?_⟩
    unfold refAt at q1
    split at q1
    · obtain ⟨tl, q1⟩ := q1
      rw [Rep.ref_iff.mp x1]
      refine ⟨list_ty r1 tl, ρ, m1, _, A.step r1 t1, q1, fun y m2 w H2 q2 r2 t2 x2 => ?_⟩
      obtain ⟨ds, b, es, rfl, e1, e2, z, q2⟩ := q2
      obtain ⟨u, h1, xs, rfl, rr⟩ := r2 _ _ e1
      obtain ⟨u', h2, ys, rfl, rs⟩ := r2 _ _ e2
      refine ⟨_, b, xs, ys, rfl, by rw [Rep.ref_iff.mp x2], h1, h2, by rw [← rr.length, ← rs.length]; exact z, ?_⟩
      exact k _ _ _ _ q2 (r2.put e1 trivial ⟨_, rfl, rr.append rs⟩) (t1.trans (t2.trans (Step.put r2 e1 trivial))) Rep.non
    · exact q1.elim
end
end Mm
namespace Mm
open PySem L2
open PyProof.Rows (envOfC)

/-! ### texts that are written: when two are one -/
theorem ofString_inj {a b : String} : (Str.ofString a = Str.ofString b) = (a = b) := by
  apply propext
  refine ⟨fun h => ?_, fun h => by rw [h]⟩
  have h1 : (cpsOfBytes 0 0 a.toByteArray.data.toList).toArray = (cpsOfBytes 0 0 b.toByteArray.data.toList).toArray := Str.mk.inj h
  have h2 : a.toList.map Char.toNat = b.toList.map Char.toNat := by
    have := congrArg Array.toList h1
    simp only [cpsOfBytes_string] at this
    exact this
  have inj : ∀ c d : Char, c.toNat = d.toNat → c = d := fun c d e => Char.ext (UInt32.toNat_inj.mp e)
  have h3 : ∀ l k : List Char, l.map Char.toNat = k.map Char.toNat → l = k := by
    intro l
    induction l with
    | nil => intro k h; cases k with
      | nil => rfl
      | cons _ _ => simp at h
    | cons c l ih => intro k h; cases k with
      | nil => simp at h
      | cons d k =>
        simp only [List.map_cons, List.cons.injEq] at h
        rw [inj c d h.1, ih k h.2]
  exact String.toList_inj.mp (h3 _ _ h2)

section
variable {E : EndsM} {ρ : StM} {m : Mem} {Q : KM} {QB : Bool → Mem → Prop} {QL : List D → Mem → Prop} {d x y : D} {t u : TSm} {pa pb pc p q : TEm} {ta tb : TTm} {la : TAm} {r r' : R2m}
theorem i_seq (h : t { E with nx := u E } ρ m) : wSeq t u E ρ m := h
theorem i_next (h : E.nx ρ m) : wNext E ρ m := h
theorem i_if (h : ta ρ m fun b m1 => if b = true then t E ρ m1 else u E ρ m1) : wIfS ta t u E ρ m := h
theorem i_ret (h : p ρ m E.rt) : wRet p E ρ m := h
theorem i_retN (h : E.rt .non m) : wRetN E ρ m := h
theorem i_drop (h : p ρ m fun _ m1 => E.nx ρ m1) : wDrop p E ρ m := h
theorem i_set {i : Nat} (h : p ρ m fun d m1 => E.nx (ρ.set i (some d)) m1) : wSet i p E ρ m := h
theorem i_asg {g : TGm} (h : p ρ m fun d m1 => g d ρ m1 E.nx) : wAsg p g E ρ m := h
theorem i_par {i j : Nat} (h : la ρ m fun ds m1 => twoAt ds fun x y => E.nx ((ρ.set i (some x)).set j (some y)) m1) : wPar i j la E ρ m := h
theorem i_gN {i : Nat} {n : StM → Mem → Prop} (h : n (ρ.set i (some d)) m) : gN i d ρ m n := h
theorem i_gTup {k : Nat} {h : TGsm} {n : StM → Mem → Prop} {ds : List D} (e : ds.length = k) (q : h ds ρ m n) : gTupM k h (.tup ds) ρ m n := ⟨e, q⟩
theorem i_gC {g : TGm} {h : TGsm} {n : StM → Mem → Prop} {ds : List D} (q : g d ρ m fun ρ1 m1 => h ds ρ1 m1 n) : gConss g h (d :: ds) ρ m n := q
theorem i_gE {n : StM → Mem → Prop} (q : n ρ m) : gNils [] ρ m n := ⟨rfl, q⟩
theorem i_var {i : Nat} (e : ρ[i]? = some (some d)) (h : Q d m) : wVar i ρ m Q := ⟨d, e, h⟩
theorem i_C (h : Q d m) : wC d ρ m Q := h
theorem i_bin (h : pa ρ m fun x m1 => pb ρ m1 fun y m2 => r x y m2 Q) : wBin r pa pb ρ m Q := h
theorem i_un {r : R1m} (h : p ρ m fun d m1 => r d m1 Q) : wUn r p ρ m Q := h
theorem i_neg {i : Int} (h : Q (.int (-i)) m) : wNeg (.int i) m Q := h
theorem i_test (h : p ρ m fun d m' => ∃ k, d = .bl k ∧ QB k m') : wTest p ρ m QB := h
theorem i_bl {b : Bool} {R : Bool → Prop} (h : R b) : ∃ k, D.bl b = .bl k ∧ R k := ⟨b, rfl, h⟩
theorem i_chain (h : pa ρ m fun x m1 => pb ρ m1 fun y m2 => r x y m2 fun z m3 => ∃ k, z = .bl k ∧ if k = true then pc ρ m3 fun w m4 => r' y w m4 Q else Q (.bl false) m3) : wChain r r' pa pb pc ρ m Q := h
theorem i_and (h : ta ρ m fun c m1 => if c = true then tb ρ m1 QB else QB false m1) : wAnd ta tb ρ m QB := h
theorem i_or (h : ta ρ m fun c m1 => if c = true then QB true m1 else tb ρ m1 QB) : wOr ta tb ρ m QB := h
theorem i_not (h : ta ρ m fun c m1 => QB (!c) m1) : wNot ta ρ m QB := h
theorem i_andV (h : p ρ m fun d m1 => ∃ c, d = .bl c ∧ if c = true then q ρ m1 Q else Q (.bl false) m1) : wAndV p q ρ m Q := h
theorem i_orV (h : p ρ m fun d m1 => ∃ c, d = .bl c ∧ if c = true then Q (.bl true) m1 else q ρ m1 Q) : wOrV p q ρ m Q := h
theorem i_notV (h : p ρ m fun d m1 => ∃ c, d = .bl c ∧ Q (.bl (!c)) m1) : wNotV p ρ m Q := h
theorem i_ifE (h : ta ρ m fun c m1 => if c = true then p ρ m1 Q else q ρ m1 Q) : wIf ta p q ρ m Q := h
theorem i_nil (h : QL [] m) : wNil ρ m QL := h
theorem i_cons (h : p ρ m fun d m1 => la ρ m1 fun ds m2 => QL (d :: ds) m2) : wCons p la ρ m QL := h
theorem i_tup (h : la ρ m fun ds m1 => ds.length ≤ sizeLine ∧ Q (.tup ds) m1) : wTup la ρ m Q := h
theorem i_lst (h : la ρ m fun ds m1 => ds.length ≤ sizeLine ∧ newO (.lst ds) m1 Q) : wLst la ρ m Q := h
theorem i_call {sp : SpM} {Em : XM} (h : la ρ m fun ds m1 => sp ds m1 Q Em) : wCall sp Em la ρ m Q := h
theorem i_cb {rl : RLm} (h : la ρ m fun ds m1 => rl ds m1 Q) : wCB rl la ρ m Q := h
theorem i_I0 {g : Int → Int → D} {i j : Int} (h : Q (g i j) m) : wI0 g (.int i) (.int j) m Q := h
theorem i_I {C : Int → Int → Prop} {g : Int → Int → D} {i j : Int} (c : C i j) (h : Q (g i j) m) : wI C g (.int i) (.int j) m Q := ⟨c, h⟩
theorem i_plusI {i j : Int} (h : Q (.int (i + j)) m) : wPlus (.int i) (.int j) m Q := h
theorem i_plusS {i j : Str} (z : i.length + j.length ≤ sizeLine) (h : Q (.str (i ++ j)) m) : wPlus (.str i) (.str j) m Q := ⟨z, h⟩
theorem i_plusT {i j : List D} (z : i.length + j.length ≤ sizeLine) (h : Q (.tup (i ++ j)) m) : wPlus (.tup i) (.tup j) m Q := ⟨z, h⟩
theorem i_plusL {a b : Addr} {i j : List D} (h1 : m a = some (.lst i)) (h2 : m b = some (.lst j)) (z : i.length + j.length ≤ sizeLine) (h : newO (.lst (i ++ j)) m Q) : wPlus (.ref a) (.ref b) m Q := ⟨i, j, h1, h2, z, h⟩
theorem i_timesI {i j : Int} (c : CMul i j ∨ CMulW i j) (h : Q (.int (i * j)) m) : wTimes (.int i) (.int j) m Q := ⟨c, h⟩
theorem i_timesS {i : Str} {j : Int} (c : MulOk i j) (h : Q (.str (Txt.mul i j)) m) : wTimes (.str i) (.int j) m Q := ⟨c, h⟩
theorem i_eqq {k : Bool} (e : scD x y = some k) (h : Q (.bl k) m) : wEqq x y m Q := ⟨k, .inl e, h⟩
theorem i_neq {k : Bool} (e : scD x y = some k) (h : Q (.bl (!k)) m) : wNeq x y m Q := ⟨k, .inl e, h⟩
theorem i_eqqS {a b : Str} (h : Q (.bl (decide (a = b))) m) : wEqq (.str a) (.str b) m Q := ⟨_, .inl rfl, h⟩
theorem i_eqqI {a b : Int} (h : Q (.bl (decide (a = b))) m) : wEqq (.int a) (.int b) m Q := ⟨_, .inl rfl, h⟩
theorem i_eqqB {a b : Bool} (h : Q (.bl (decide (a = b))) m) : wEqq (.bl a) (.bl b) m Q := ⟨_, .inl rfl, h⟩
theorem i_neqS {a b : Str} (h : Q (.bl (!decide (a = b))) m) : wNeq (.str a) (.str b) m Q := ⟨_, .inl rfl, h⟩
theorem i_neqI {a b : Int} (h : Q (.bl (!decide (a = b))) m) : wNeq (.int a) (.int b) m Q := ⟨_, .inl rfl, h⟩
theorem i_neqB {a b : Bool} (h : Q (.bl (!decide (a = b))) m) : wNeq (.bl a) (.bl b) m Q := ⟨_, .inl rfl, h⟩
theorem i_subT {ds : List D} {i : Int} (e : atI ds i = some d) (h : Q d m) : wSub (.tup ds) (.int i) m Q := ⟨d, e, h⟩
theorem i_subL {a : Addr} {ds : List D} {i : Int} (e0 : rdM m a = some (.lst ds)) (e : atI ds i = some d) (h : Q d m) : wSub (.ref a) (.int i) m Q := ⟨_, e0, i, d, rfl, e, h⟩
theorem i_subK {a : Addr} {kvs : List (Key × D)} {z : Str} (e0 : rdM m a = some (.dK kvs)) (e : valD kvs (.inr z) = some d) (h : Q d m) : wSub (.ref a) (.str z) m Q := ⟨_, e0, d, ⟨.inr z, rfl, e.symm⟩, h⟩
theorem i_subD {a : Addr} {kvs : List (List Key × D)} {ks : List Key} (e0 : rdM m a = some (.dT kvs)) (n1 : ks.length ≠ 1) (n5 : ks.length ≠ 5) (e : valD kvs ks = some d) (h : Q d m) : wSub (.ref a) (.tup (ks.map kD)) m Q := ⟨_, e0, d, ⟨ks, rfl, n1, n5, e.symm⟩, h⟩
theorem i_subS {z : Str} {i : Int} {c : Nat} (l : z.length ≤ sizeLine) (e : atI z.cps.toList i = some c) (h : Q (.str ⟨#[c]⟩) m) : wSub (.str z) (.int i) m Q := ⟨l, c, e, h⟩
theorem i_isN (h : Q (.bl (isN x)) m) : wIsN x .non m Q := h
theorem i_notN (h : Q (.bl (!isN x)) m) : wNotN x .non m Q := h
theorem i_max2 {i j : Int} (h : Q (.int (if j > i then j else i)) m) : wMax2 [.int i, .int j] m Q := h
theorem i_min2 {i j : Int} (h : Q (.int (if j < i then j else i)) m) : wMin2 [.int i, .int j] m Q := h
theorem i_abs {i : Int} (h : Q (.int (if i < 0 then -i else i)) m) : wAbs [.int i] m Q := h
theorem i_intI {i : Int} (h : Q (.int i) m) : wInt1 [.int i] m Q := h
theorem i_intB {b : Bool} (h : Q (.int (if b then 1 else 0)) m) : wInt1 [.bl b] m Q := h
theorem i_lenS {z : Str} (l : z.length ≤ sizeLine) (h : Q (.int z.length) m) : wLen1 [.str z] m Q := ⟨l, h⟩
theorem i_lenT {ds : List D} (h : Q (.int ds.length) m) : wLen1 [.tup ds] m Q := h
theorem i_lenL {a : Addr} {ds : List D} (e : rdM m a = some (.lst ds)) (h : Q (.int ds.length) m) : wLen1 [.ref a] m Q := .inl ⟨ds, e, h⟩
theorem i_lenD {a : Addr} {kvs : List (Key × D)} (e : m a = some (.dK kvs)) (h : Q (.int kvs.length) m) : wLen1 [.ref a] m Q := .inr ⟨kvs, e, h⟩
theorem i_isi {t T : String} (e : tyD m x = some t) (ht : T ∈ tys) (h : Q (.bl (isiB t T)) m) : wIsi [x, .ty T] m Q := ⟨t, e, ht, h⟩
theorem i_listT {ds : List D} (h : newO (.lst ds) m Q) : wList1 [.tup ds] m Q := h
theorem i_listL {a : Addr} {ds : List D} (e : rdM m a = some (.lst ds)) (h : newO (.lst ds) m Q) : wList1 [.ref a] m Q := .inl ⟨ds, e, h⟩
theorem i_listD {a : Addr} {kvs : List (Key × D)} (e : m a = some (.dK kvs)) (h : newO (.lst (kvs.map fun p => kD p.1)) m Q) : wList1 [.ref a] m Q := .inr ⟨kvs, e, h⟩
theorem i_tupT {ds : List D} (h : Q (.tup ds) m) : wTuple1 [.tup ds] m Q := h
theorem i_tupL {a : Addr} {ds : List D} (e : rdM m a = some (.lst ds)) (h : Q (.tup ds) m) : wTuple1 [.ref a] m Q := ⟨ds, e, h⟩
theorem i_put (h : pc ρ m fun z m1 => pa ρ m1 fun x m2 => pb ρ m2 fun y m3 => refAt x fun a => ∃ o o', m3 a = some o ∧ putO o y z o' ∧ E.nx ρ (mput m3 a o')) : wPut pa pb pc E ρ m := h
theorem i_ref {a : Addr} {k : Addr → Prop} (h : k a) : refAt (.ref a) k := h
theorem i_tupAt {ds : List D} {k : List D → Prop} (h : k ds) : tupAt (.tup ds) k := h
theorem i_two {x y : D} {k : D → D → Prop} (h : k x y) : twoAt [x, y] k := h
theorem i_int1 {i : Int} {k : Int → Prop} (h : k i) : int1At [.int i] k := h
theorem i_int2 {i j : Int} {k : Int → Int → Prop} (h : k i j) : int2At [.int i, .int j] k := h
theorem i_putK {a : Addr} {kvs : List (Key × D)} {k : Str} {z : D} {R : Mem → Prop} (h1 : m a = some (.dK kvs)) (n : kvs.length < sizeLine) (h : R (mput m a (.dK (putD kvs (.inr k) z)))) :
    ∃ o o', m a = some o ∧ putO o (.str k) z o' ∧ R (mput m a o') := ⟨_, _, h1, ⟨.inr k, rfl, n, rfl⟩, h⟩
theorem i_rt {R : KM} (h : R d m) : RtM R d m := RtM.mk h
theorem i_iteT {b : Bool} {P R : Prop} (e : b = true) (h : P) : if b = true then P else R := by rw [e]; exact h
theorem i_iteF {b : Bool} {P R : Prop} (e : b = false) (h : R) : if b = true then P else R := by rw [e]; exact h
theorem i_ite {b : Bool} {P R : Prop} (h1 : b = true → P) (h2 : b = false → R) : if b = true then P else R := by
  cases b with
  | true => exact h1 rfl
  | false => exact h2 rfl
theorem i_size {α : Type} {ds : List α} {n : Nat} (h : ds.length ≤ n) (z : n ≤ 1000 := by decide) : ds.length ≤ sizeLine := Nat.le_of_lt (small1000 (Nat.le_trans h z))
theorem i_and2 {P R : Prop} (h1 : P) (h2 : R) : P ∧ R := ⟨h1, h2⟩
theorem sl {n : Nat} (h : n ≤ 1000) : n ≤ sizeLine := Nat.le_of_lt (small1000 h)
end
end Mm
namespace Mm
open PySem L2
open PyProof.Rows (envOfC)

/-! ### a list of the written part, or of the memory (the script) -/
def KL (K : PySem.W.Frag) (a : Addr) (ns : List Int) : Prop := ∃ (o : Obj) (its : Array Value) (n : Nat), K.lookup a = some o ∧ o.cls = .type "list" ∧ o.dict = none ∧ o.data = .seq its n ∧ its.size ≤ sizeLine ∧ Vals (ns.map V.int) its.toList
def LsK (K : PySem.W.Frag) (m : Mem) (a : Addr) (ns : List Int) : Prop := rdM m a = some (.lst (ns.map .int)) ∨ KL K a ns
theorem LsK.sq {K : PySem.W.Frag} {H : Hp} {m : Mem} {a : Addr} {ns : List Int} (r : RM K H m) (h : LsK K m a ns) : SqL K H a (ns.map V.int) := by
  rcases h with h | h
  · obtain ⟨xs, s, rr⟩ := rd_lst r h
    rw [reps_intsV rr] at s; exact s
  · exact .inr h
theorem LsK.put {K : PySem.W.Frag} {m : Mem} {a b : Addr} {o : O} {ns : List Int} (h : LsK K m a ns) (ne : a ≠ b) : LsK K (mput m b o) a ns := by
  rcases h with h | h
  · refine .inl ?_
    unfold rdM at h ⊢
    rw [mput_ne ne]; exact h
  · exact .inr h
section
variable {X : Cx} {B : Bs} {e tg iter k v : Expr} {ks : List (Option Expr)} {vs : List Expr} {pos : Pos} {p pa pb : TEm}
def wSubS (K : PySem.W.Frag) : R2m := fun x y m Q => match x, y with
  | .ref a, .int i => ∃ ns n, LsK K m a ns ∧ atI ns i = some n ∧ Q (.int n) m
  | _, _ => False
theorem atI_map {α β : Type} {f : α → β} {xs : List α} {i : Int} {x : α} (h : atI xs i = some x) : atI (xs.map f) i = some (f x) := by
  unfold atI at h ⊢
  rw [List.length_map]
  cases q : ixN xs.length i with
  | none => rw [q] at h; cases h
  | some j =>
    rw [q] at h
    show (xs.map f)[j]? = _
    rw [List.getElem?_map]
    have : xs[j]? = some x := h
    rw [this]; rfl
theorem mi_subS : MIx X (wSubS X.K) := mix_of ix_list fun x y v w H m Q Qm hx hy r q k => by
  unfold wSubS at q
  split at q
  · obtain ⟨ns, n, h, e, q⟩ := q
    exact ⟨_, _, _, .int n, Rep.ref_iff.mp hx, Rep.int_iff.mp hy, h.sq r, atI_map e, k _ _ _ _ q r Step.refl Rep.int⟩
  · exact q.elim
def wLenS (K : PySem.W.Frag) : RLm := fun ds m Q => match ds with
  | [.ref a] => ∃ ns, LsK K m a ns ∧ Q (.int ns.length) m
  | _ => False
theorem mc_lenS : MCall X (.builtin "len") (wLenS X.K) := mcall_of call_len fun ds vs H m Q Qm hx r q k => by
  unfold wLenS at q; split at q
  · obtain ⟨v, e, x⟩ := reps1 hx
    rw [Rep.ref_iff.mp x] at e
    obtain ⟨ns, h, q⟩ := q
    exact ⟨.ref _, _, e, Or.inl ⟨_, h.sq r, rfl⟩, by rw [List.length_map]; exact k _ _ _ _ q r Step.refl Rep.int⟩
  · exact q.elim
/-- over the script: at each turn it is looked at -/
def iLS (K : PySem.W.Frag) (p : TEm) : TIm := fun ρ m R => p ρ m fun d m1 => refAt d fun a => ∃ ns, LsK K m1 a ns ∧ R (ns.map .int) (fun m' => LsK K m' a ns) m1
theorem mi_listS (h : MX X B iter p) : MI X B tg iter (iLS X.K p) := piImp (pi_list h) fun σ H R ⟨ρ, m, Rm, A, q, k⟩ => by
  refine ⟨ρ, m, _, A, q, fun d m1 v H1 q1 r1 t1 x1 => ?_⟩
  unfold refAt at q1
  split at q1
  · obtain ⟨ns, e, q1⟩ := q1
    refine ⟨_, Rep.ref_iff.mp x1, ⟨_, e.sq r1⟩, k _ _ _ _ _ q1 r1 t1 (good_list (fun m' H' s r c => ⟨_, c.sq r, Reps.ints ns⟩) fun _ _ _ _ _ _ => trivial)⟩
  · exact q1.elim

/-! ### a displayed dict -/
def wPairs : List (TEm × TEm) → StM → Mem → (List (D × D) → Mem → Prop) → Prop
  | [], _, m, Q => Q [] m
  | (tk, tv) :: r, ρ, m, Q => tk ρ m fun x m1 => tv ρ m1 fun y m2 => wPairs r ρ m2 fun ps m3 => Q ((x, y) :: ps) m3
def MPs (X : Cx) (B : Bs) (pos : Pos) (keys : List (Option Expr)) (values : List Expr) (ps : List (TEm × TEm)) : Prop := PPs X pos keys values (ps.map fun p => (uE X.K B p.1, uE X.K B p.2))
theorem mps_nil : MPs X B pos [] [] [] := pps_nil
theorem mps_cons {ps : List (TEm × TEm)} (hk : MX X B k pa) (hv : MX X B v pb) (hr : MPs X B pos ks vs ps) : MPs X B pos (some k :: ks) (v :: vs) ((pa, pb) :: ps) := pps_cons hk hv hr
def mergeD (kvs more : List (Key × D)) : List (Key × D) := more.foldl (fun acc kv => putD acc kv.1 kv.2) kvs
theorem KVs.merge {K : PySem.W.Frag} {H : Hp} : ∀ {more : List (Key × D)} {rs : List (Key × V)} {kvs : List (Key × D)} {ws : List (Key × V)}, KVs K H more rs → KVs K H kvs ws → KVs K H (mergeD kvs more) (mergeK ws rs) := by
  intro more rs kvs ws r
  unfold KVs at r
  induction r generalizing kvs ws with
  | nil => intro q; exact q
  | @cons p q ps qs h t ih =>
    intro r0
    have e : KVs K H (putD kvs p.1 p.2) (putK ws q.1 q.2) := by
      have := KVs.put (k := p.1) h.2 r0
      rw [← h.1]; exact this
    exact ih e
def wDisp (ps : List (TEm × TEm)) : TEm := fun ρ m Q => wPairs ps ρ m fun prs m' => ∃ kvs : List (Key × D), prs = kvs.map (fun kv => (kD kv.1, kv.2)) ∧ kvs.length ≤ 15 ∧ newO (.dK (mergeD [] kvs)) m' Q
abbrev PairV (K : PySem.W.Frag) (H : Hp) : List (D × D) → List (V × V) → Prop := Paired fun p q => Rep K H p.1 q.1 ∧ Rep K H p.2 q.2
theorem pairs_go {K : PySem.W.Frag} : ∀ (ps : List (TEm × TEm)) {σ : St} {H : Hp} {ρ : StM} {m : Mem} {Qm : List (D × D) → Mem → Prop} {Q : List (V × V) → Hp → Prop}, At K B σ H ρ m → wPairs ps ρ m Qm →
    (∀ prs m' vs H', Qm prs m' → RM K H' m' → Step m H m' H' → PairV K H' prs vs → Q vs H') → tPairs (ps.map fun p => (uE K B p.1, uE K B p.2)) σ H Q
  | [], σ, H, ρ, m, Qm, Q, A, q, k => k _ _ _ _ q A.r Step.refl .nil
  | (tk, tv) :: r, σ, H, ρ, m, Qm, Q, A, q, k => by
    refine ⟨ρ, m, _, A, q, fun x m1 v H1 q1 r1 t1 x1 => ?_⟩
    refine ⟨ρ, m1, _, A.step r1 t1, q1, fun y m2 w H2 q2 r2 t2 x2 => ?_⟩
    refine pairs_go r ((A.step r1 t1).step r2 t2) q2 fun prs m3 ws H3 q3 r3 t3 x3 => ?_
    exact k _ _ _ _ q3 r3 (t1.trans (t2.trans t3)) (.cons ⟨(x1.stay (t2.tups r1)).stay (t3.tups r2), x2.stay (t3.tups r2)⟩ x3)
theorem pairV_kvs {K : PySem.W.Frag} {H : Hp} : ∀ {kvs : List (Key × D)} {vs : List (V × V)}, PairV K H (kvs.map fun kv => (kD kv.1, kv.2)) vs → ∃ ws : List (Key × V), vs = ws.map (fun kv => (kV kv.1, kv.2)) ∧ KVs K H kvs ws
  | [], _, h => by rw [List.map_nil] at h; cases h; exact ⟨[], rfl, .nil⟩
  | p :: kvs, _, h => by
    rw [List.map_cons] at h
    cases h with
    | @cons a b as bs h t =>
      obtain ⟨ws, e, r⟩ := pairV_kvs t
      obtain ⟨b1, b2⟩ := b
      have e1 : b1 = kV p.1 := kD_rep h.1
      subst e1
      exact ⟨(p.1, b2) :: ws, by rw [e]; rfl, .cons ⟨rfl, h.2⟩ r⟩
/-- what is hidden is written, and told -/
theorem RM.told {K : PySem.W.Frag} {H : Hp} {m : Mem} (r : RM K H m) {p : Addr} {u u' : HO} {o : O} (hp : H p = some u) (nt : ∀ xs, u ≠ .tup xs) (nf : ∀ ob v, u ≠ .frz ob v) (mp : m p = none) (x : RepO K H o u') :
    RM K (upd H p u') (mput m p o) ∧ TupS K H (upd H p u') := by
  have ts : TupS K H (upd H p u') := by
    have ne : ∀ a o, H a = some o → (o ≠ u) → upd H p u' a = some o := fun a o h1 h2 => by
      rw [upd_ne]; exact h1
      rintro rfl; rw [hp] at h1; cases h1; exact h2 rfl
    intro a ys n hy
    rcases hy with hy | ⟨z, hy⟩
    · exact .inl (ne _ _ hy fun z => nt _ z.symm)
    · refine .inr ⟨z, ?_⟩
      rcases hy with (hy | ⟨ob, hy⟩) | hy
      · exact .inl (.inl (ne _ _ hy fun z => nt _ z.symm))
      · exact .inl (.inr ⟨ob, ne _ _ hy fun z => nf _ _ z.symm⟩)
      · exact .inr hy
  refine ⟨fun a o' e => ?_, ts⟩
  by_cases ne : a = p
  · subst ne
    rw [mput_same] at e; cases e
    exact ⟨u', upd_same, x.stay ts⟩
  · rw [mput_ne ne] at e
    obtain ⟨v, h1, h2⟩ := r a o' e
    exact ⟨v, by rw [upd_ne ne]; exact h1, h2.stay ts⟩
theorem mx_disp {keys : List (Option Expr)} {values : List Expr} {ps : List (TEm × TEm)} (h : MPs X B pos keys values ps) (hall : keys.all (·.isSome) = true := by rfl) (hl : keys.length = values.length := by rfl) (h0 : keys ≠ [] := by exact fun z => nomatch z)
    (h15 : keys.length ≤ 15 := by decide) : MX X B (.Dict keys values pos) (wDisp ps) := peImp (pe_disp h hall hl h0 h15) fun σ H Q ⟨ρ, m, Qm, A, q, k⟩ => by
  intro p hp
  have A1 : At X.K B σ (upd H p (.dK [])) ρ m := A.step (A.r.hid hp) (Step.hid A.r hp)
  refine pairs_go ps A1 q fun prs m' vs H2 ⟨kvs, e, z, q2⟩ r2 t2 x2 => ?_
  have mp : m p = none := A.r.out hp
  obtain ⟨e2, n2⟩ := t2 p _ upd_same (.inl mp)
  have mp2 : m' p = none := by
    rcases n2 with n2 | ⟨o, n2⟩
    · exact n2
    · obtain ⟨w, h1, ob, v, e6, _⟩ := r2 p _ n2
      rw [e2] at h1; cases h1; cases e6
  subst e
  obtain ⟨ws, e3, kv⟩ := pairV_kvs x2
  obtain ⟨r3, ts⟩ := r2.told (u' := .dK (mergeK [] ws)) (o := .dK (mergeD [] kvs)) e2 (fun _ z => by cases z) (fun _ _ z => by cases z) mp2 ⟨_, rfl, kv.merge .nil⟩
  refine ⟨e2, ws, e3, by rw [← kv.length]; exact z, k _ _ _ _ (q2 p mp2) r3 ?_ Rep.ref⟩
  intro a w h1 n1
  have ne : a ≠ p := by rintro rfl; rw [hp] at h1; cases h1
  obtain ⟨h2, n2⟩ := t2 a w (by rw [upd_ne ne]; exact h1) n1
  refine ⟨by rw [upd_ne ne]; exact h2, ?_⟩
  rcases n2 with n2 | ⟨o, n2⟩
  · exact .inl (by rw [mput_ne ne]; exact n2)
  · exact .inr ⟨o, by rw [mput_ne ne]; exact n2⟩

/-! ### slices -/
def cutL {α : Type} (xs : List α) (lo hi : Option Int) : List α := (xs.drop (HT.sIx xs.length 0 lo)).take (HT.sIx xs.length xs.length hi - HT.sIx xs.length 0 lo)
abbrev TOm := StM → Mem → (Option Int → Mem → Prop) → Prop
def uO (K : PySem.W.Frag) (B : Bs) (p : TOm) : TO := fun σ H Q => ∃ ρ m Qm, At K B σ H ρ m ∧ p ρ m Qm ∧ ∀ d m' H', Qm d m' → RM K H' m' → Step m H m' H' → Q d H'
def MO (X : Cx) (B : Bs) (e : Option Expr) (p : TOm) : Prop := PO X e (uO X.K B p)
theorem poImp {e : Option Expr} {t t' : TO} (h : PO X e t) (i : ∀ σ H Q, t' σ H Q → t σ H Q) : PO X e t' := ⟨fun pins s σ H Q I q => h.run pins s σ H Q I (i _ _ _ q)⟩
def wNoPart : TOm := fun _ m Q => Q none m
def intAt (d : D) (k : Int → Prop) : Prop := match d with
  | .int i => k i
  | _ => False
theorem i_intAt {i : Int} {k : Int → Prop} (h : k i) : intAt (.int i) k := h
def wPart (p : TEm) : TOm := fun ρ m Q => p ρ m fun d m1 => intAt d fun i => Q (some i) m1
theorem mo_none : MO X B none wNoPart := poImp po_none fun σ H Q ⟨ρ, m, Qm, A, q, k⟩ => k _ _ _ q A.r Step.refl
theorem mo_some (h : MX X B e p) : MO X B (some e) (wPart p) := poImp (po_some h) fun σ H Q ⟨ρ, m, Qm, A, q, k⟩ => by
  refine ⟨ρ, m, _, A, q, fun d m1 v H1 q1 r1 t1 x1 => ?_⟩
  unfold intAt at q1
  split at q1
  · exact ⟨_, Rep.int_iff.mp x1, k _ _ _ q1 r1 t1⟩
  · exact q1.elim
def wSlV (x : D) (lo hi : Option Int) (m3 : Mem) (Q : KM) : Prop := match x with
  | .tup ds => Q (.tup (cutL ds lo hi)) m3
  | .ref a => ∃ ds, rdM m3 a = some (.lst ds) ∧ newO (.lst (cutL ds lo hi)) m3 Q
  | .str z => z.length ≤ sizeLine ∧ Q (.str (cutS z lo hi)) m3
  | _ => False
theorem i_slT {ds : List D} {lo hi : Option Int} {m : Mem} {Q : KM} (q : Q (.tup (cutL ds lo hi)) m) : wSlV (.tup ds) lo hi m Q := q
theorem i_slL {a : Addr} {ds : List D} {lo hi : Option Int} {m : Mem} {Q : KM} (e : rdM m a = some (.lst ds)) (q : newO (.lst (cutL ds lo hi)) m Q) : wSlV (.ref a) lo hi m Q := ⟨ds, e, q⟩
theorem i_slS {z : Str} {lo hi : Option Int} {m : Mem} {Q : KM} (l : z.length ≤ sizeLine) (q : Q (.str (cutS z lo hi)) m) : wSlV (.str z) lo hi m Q := ⟨l, q⟩
def wSl (pe : TEm) (pl ph : TOm) : TEm := fun ρ m Q => pe ρ m fun x m1 => pl ρ m1 fun lo m2 => ph ρ m2 fun hi m3 => wSlV x lo hi m3 Q
theorem reps_cut {K : PySem.W.Frag} {H : Hp} {ds : List D} {vs : List V} (h : Reps K H ds vs) (lo hi : Option Int) : Reps K H (cutL ds lo hi) (cutV vs lo hi) := by
  unfold cutL cutV
  rw [h.length]
  exact (h.drop _).take _
theorem mx_slice {lo hi : Option Expr} {pl ph : TOm} {p2 : Pos} (he : MX X B e p) (hl : MO X B lo pl) (hu : MO X B hi ph) : MX X B (.Subscript e (.Slice lo hi none p2) pos) (wSl p pl ph) :=
  peImp (pe_slice ((SlR.or sl_tupA (SlR.or sl_list sl_str))) he hl hu) fun σ H Q ⟨ρ, m, Qm, A, q, k⟩ => by
  refine ⟨ρ, m, _, A, q, fun d m1 v H1 q1 r1 t1 x1 => ?_⟩
  refine ⟨ρ, m1, _, A.step r1 t1, q1, fun l m2 H2 q2 r2 t2 => ?_⟩
  refine ⟨ρ, m2, _, (A.step r1 t1).step r2 t2, q2, fun h m3 H3 q3 r3 t3 => ?_⟩
  have t := t1.trans (t2.trans t3)
  have x3 := (x1.stay (t2.tups r1)).stay (t3.tups r2)
  unfold wSlV at q3
  split at q3
  · rename_i ds
    obtain ⟨a, xs, e1, s, rr⟩ := Rep.tup_iff.mp x3
    refine .inl ⟨a, xs, e1, s.sq, fun z => ?_, fun _ p hp => ?_⟩
    · have e2 : cutL ds l h = ds := by
        unfold cutL
        rw [rr.length, z.1, z.2, List.drop_zero, Nat.sub_zero, ← rr.length]
        exact List.take_length
      rw [e2] at q3
      exact k _ _ _ _ q3 r3 t (by rw [← e1]; exact x3)
    · have th : Step m3 H3 m3 (upd H3 p (.tup (cutV xs l h))) := Step.hid r3 hp
      exact k _ _ _ _ q3 (r3.hid hp) (t.trans th) (Rep.tup_iff.mpr ⟨p, _, rfl, TupAt.of upd_same, (reps_cut rr l h).stay (th.tups r3)⟩)
  · obtain ⟨ds, e1, q3⟩ := q3
    obtain ⟨xs, s, rr⟩ := rd_lst r3 e1
    exact .inr (.inl ⟨_, xs, Rep.ref_iff.mp x3, s, new_go q3 r3 t ⟨_, rfl, reps_cut rr l h⟩ k⟩)
  · exact .inr (.inr ⟨_, Rep.str_iff.mp x3, q3.1, k _ _ _ _ q3.2 r3 t Rep.str⟩)
  · exact q3.elim

/-! ### dict(d), sorted -/
end
end Mm
namespace Mm
open PySem L2
open PyProof.Rows (envOfC)

/-! ### the keys of a dict, walked -/
def keysO (o : O) (ds : List D) : Prop := match o with
  | .dK kvs => ds = kvs.map fun p => kD p.1
  | .dT kvs => ds = kvs.map (fun p => .tup (p.1.map kD)) ∧ ∀ p ∈ kvs, p.1.length ≠ 1 ∧ p.1.length ≠ 5
  | _ => False
section
variable {X : Cx} {B : Bs} {e elt tg iter : Expr} {ifs : List Expr} {body : List Stmt} {pos : Pos} {p : TEm}
def iK (p : TEm) : TIm := fun ρ m R => p ρ m fun d m1 => refAt d fun a => ∃ o ds, m1 a = some (.frz o) ∧ keysO o ds ∧ R ds (fun _ => True) m1
theorem kvs_at {K : PySem.W.Frag} {H : Hp} {κ : Type} {a : List (κ × D)} {b : List (κ × V)} (h : KVs K H a b) : ∀ {i : Nat} {p : κ × V}, b[i]? = some p → ∃ q, a[i]? = some q ∧ q.1 = p.1 := by
  unfold KVs at h
  induction h with
  | nil => intro i p e; simp at e
  | cons h r ih =>
    intro i p e
    cases i with
    | zero => simp at e; subst e; exact ⟨_, by simp, h.1⟩
    | succ i => simpa using ih (by simpa using e)
theorem mi_keys (h : MX X B iter p) : MI X B tg iter (iK p) := piImp (pi_keys h) fun σ H R ⟨ρ, m, Rm, A, q, k⟩ => by
  refine ⟨ρ, m, _, A, q, fun d m1 v H1 q1 r1 t1 x1 => ?_⟩
  unfold refAt at q1
  split at q1
  · rename_i a
    obtain ⟨o, ds, e, ky, q1⟩ := q1
    obtain ⟨u, h1, ob, w, rfl, h2⟩ := r1 _ _ e
    have stay : ∀ m' H', Step m1 H1 m' H' → H' a = some (.frz ob w) := fun m' H' s => (s a _ h1 (.inr ⟨_, e⟩)).1
    unfold keysO at ky
    split at ky
    · rename_i kvs
      subst ky
      obtain ⟨xs, rfl, kv⟩ := h2
      refine ⟨_, ob, Rep.ref_iff.mp x1, .inl ⟨xs, h1, k _ _ _ _ _ q1 r1 t1 fun i m' H' s r c => ?_⟩⟩
      have h3 := stay m' H' s
      refine ⟨fun d e2 => ?_, fun e2 => ⟨h3, by rw [← kv.length]; simpa using e2⟩⟩
      rw [List.getElem?_map] at e2
      obtain ⟨pr, e3, e4⟩ := Option.map_eq_some_iff.mp e2
      have hi : i < xs.length := by rw [← kv.length]; exact (List.getElem?_eq_some_iff.mp e3).1
      refine ⟨⟨h3, hi⟩, fun x H2 y => ?_⟩
      obtain ⟨rfl, k', v', e5, rfl⟩ := y
      obtain ⟨q', e6, e7⟩ := kvs_at kv e5
      rw [e3] at e6; cases e6
      refine ⟨r, Step.refl, ?_⟩
      rw [← e4, e7]; exact rep_kD
    · rename_i kvs
      obtain ⟨ky, kn⟩ := ky
      subst ky
      obtain ⟨xs, rfl, kv⟩ := h2
      refine ⟨_, ob, Rep.ref_iff.mp x1, .inr ⟨xs, h1, k _ _ _ _ _ q1 r1 t1 fun i m' H' s r c => ?_⟩⟩
      have h3 := stay m' H' s
      refine ⟨fun d e2 => ?_, fun e2 => ⟨h3, by rw [← kv.length]; simpa using e2⟩⟩
      rw [List.getElem?_map] at e2
      obtain ⟨pr, e3, e4⟩ := Option.map_eq_some_iff.mp e2
      have hi : i < xs.length := by rw [← kv.length]; exact (List.getElem?_eq_some_iff.mp e3).1
      refine ⟨⟨h3, hi⟩, fun x H2 y => ?_⟩
      obtain ⟨rfl, k', v', qa, e5, rfl, ht⟩ := y
      obtain ⟨q', e6, e7⟩ := kvs_at kv e5
      rw [e3] at e6; cases e6
      refine ⟨r, Step.refl, ?_⟩
      rw [← e4, e7]
      exact Rep.tup_iff.mpr ⟨qa, _, rfl, .inl ht, reps_kDs⟩
    · exact ky.elim
  · exact q1.elim
theorem unlock_tups {K : PySem.W.Frag} {H' : Hp} {m' : Mem} {a : Addr} {u : HO} {od : Obj} (r' : RM K H' m') (e1 : H' a = some (.frz od u)) (mu : Mut (some u)) : TupS K H' (upd H' a u) := by
  have ne : ∀ b w, H' b = some w → (∀ ob v, w ≠ .frz ob v) → upd H' a u b = some w := fun b w hb hw => by
    rw [upd_ne]; exact hb
    rintro rfl; rw [e1] at hb; cases hb; exact hw _ _ rfl
  intro b ys n hy
  rcases hy with hy | ⟨z, hy⟩
  · exact .inl (ne _ _ hy fun _ _ z => by cases z)
  · refine .inr ⟨z, ?_⟩
    rcases hy with (hy | ⟨ob, hy⟩) | hy
    · exact .inl (.inl (ne _ _ hy fun _ _ z => by cases z))
    · by_cases eb : b = a
      · subst eb
        rw [e1] at hy; cases hy
        exact False.elim mu
      · exact .inl (.inr ⟨ob, by rw [upd_ne eb]; exact hy⟩)
    · exact .inr hy
/-- locking a dict -/
theorem lock_go {K : PySem.W.Frag} {H : Hp} {m : Mem} {a : Addr} {o : O} {ds : List D} (r : RM K H m) (e : m a = some o) (ky : keysO o ds) :
    ∃ u, H a = some u ∧ Mut (some u) ∧ Wr o ∧ ∀ od, RM K (upd H a (.frz od u)) (mput m a (.frz o)) ∧ Step m H (mput m a (.frz o)) (upd H a (.frz od u)) := by
  obtain ⟨u, h1, h2⟩ := r a o e
  have mu : Mut (some u) ∧ Wr o := by
    unfold keysO at ky
    split at ky
    · obtain ⟨xs, rfl, _⟩ := h2; exact ⟨trivial, trivial⟩
    · obtain ⟨xs, rfl, _⟩ := h2; exact ⟨trivial, trivial⟩
    · exact ky.elim
  exact ⟨u, h1, mu.1, mu.2, fun od => ⟨r.put e mu.2 ⟨od, u, rfl, h2⟩, Step.put r e mu.2⟩⟩
theorem unlock_go {K : PySem.W.Frag} {H H' : Hp} {m m' : Mem} {a : Addr} {o : O} {u : HO} {od : Obj} {ds : List D} (r : RM K H m) (e : m a = some o) (ky : keysO o ds) (h1 : H a = some u) (h2 : RepO K H o u) (mu : Mut (some u))
    (r' : RM K H' m') (t : Step (mput m a (.frz o)) (upd H a (.frz od u)) m' H') : H' a = some (.frz od u) ∧ RM K (upd H' a u) (mput m' a o) ∧ Step m H (mput m' a o) (upd H' a u) := by
  have e1 : H' a = some (.frz od u) := (t a _ upd_same (.inr ⟨o, mput_same⟩)).1
  have n1 : Nm m' a := (t a _ upd_same (.inr ⟨o, mput_same⟩)).2
  have ts0 : TupS K H (upd H a (.frz od u)) := by
    have w : Wr o := by
      unfold keysO at ky
      split at ky
      · trivial
      · trivial
      · exact ky.elim
    exact (Step.put (u := .frz od u) (o := .frz o) r e w).tups r
  have rl : RM K (upd H a (.frz od u)) (mput m a (.frz o)) := by
    have w : Wr o := by
      unfold keysO at ky
      split at ky
      · trivial
      · trivial
      · exact ky.elim
    exact r.put e w ⟨od, u, rfl, h2⟩
  have ts1 : TupS K H H' := fun b ys n hy => t.tups rl b ys n (ts0 b ys n hy)
  have ts2 : TupS K H' (upd H' a u) := unlock_tups r' e1 mu
  refine ⟨e1, fun b ob hb => ?_, fun b w hb n => ?_⟩
  · by_cases eb : b = a
    · subst eb
      rw [mput_same] at hb; cases hb
      exact ⟨u, upd_same, (h2.stay ts1).stay ts2⟩
    · rw [mput_ne eb] at hb
      obtain ⟨w, z1, z2⟩ := r' b ob hb
      exact ⟨w, by rw [upd_ne eb]; exact z1, z2.stay ts2⟩
  · have eb : b ≠ a := by
      rintro rfl
      have w : Wr o := by
        unfold keysO at ky
        split at ky
        · trivial
        · trivial
        · exact ky.elim
      exact nm_wr e w n
    obtain ⟨z1, z2⟩ := t b w (by rw [upd_ne eb]; exact hb) (by
      rcases n with n | ⟨o', n⟩
      · exact .inl (by rw [mput_ne eb]; exact n)
      · exact .inr ⟨o', by rw [mput_ne eb]; exact n⟩)
    refine ⟨by rw [upd_ne eb]; exact z1, ?_⟩
    rcases z2 with n | ⟨o', n⟩
    · exact .inl (by rw [mput_ne eb]; exact n)
    · exact .inr ⟨o', by rw [mput_ne eb]; exact n⟩
/-- [elt for k in d], d the dict in slot i -/
def wLcK (i : Nat) (g : TGm) (tt : TTm) (te : TEm) (vs : List Nat) : TEm := fun ρ m Q => ∃ a o ds, ρ[i]? = some (some (.ref a)) ∧ m a = some o ∧ keysO o ds ∧
  lcC (fun _ => True) g tt te vs ρ (fun acc m' => ∀ p, p ≠ a → m' p = none → Q (.ref p) (mput (mput m' a o) p (.lst acc))) ds [] (mput m a (.frz o))
theorem mx_lcK {i : Nat} {scope : Scope} {own : List (Str × Nat)} {g : TGm} {g0 : TG} {tt : TTm} {te : TEm} (hc : X.calm = true) (hN : X.N.Nodup) (hi : MX X B iter (wVar i)) (ok : BlkOk X.N X.env.scope scope own)
    (hg : ∀ (s : Shared) (H : Hp) (C : Addr) (cl : List (Str × Addr)) (fp : List Addr), PG (X.blk s H scope (compEnvC scope cl C X.env) fp) tg g0) (gk : GOk X.K B g g0 (own.map (·.2)))
    (ht : ∀ (s : Shared) (H : Hp) (C : Addr) (cl : List (Str × Addr)) (fp : List Addr), MTs (X.blk s H scope (compEnvC scope cl C X.env) fp) B ifs tt)
    (he : ∀ (s : Shared) (H : Hp) (C : Addr) (cl : List (Str × Addr)) (fp : List Addr), MX (X.blk s H scope (compEnvC scope cl C X.env) fp) B elt te) (hs : ∀ x, foldedSetIterable iter X.env x = pure x := by intro _; rfl) :
    MX X B (.ListComp elt [⟨tg, iter, ifs, 0⟩] scope pos) (wLcK i g tt te (own.map (·.2))) :=
  peImp (pe_lock (pe_lc (tt := uT X.K B tt) (te := uE X.K B te) hc hN (mi_keys (tg := tg) hi) ok hg ht he hs)) fun σ H Q ⟨ρ, m, Qm, A, ⟨a, o, ds, ei, e, ky, q⟩, k⟩ => by
  obtain ⟨u, h1, mu, w, lk⟩ := lock_go A.r e ky
  obtain ⟨u', h1', h2⟩ := A.r a o e
  rw [h1] at h1'; cases h1'
  refine ⟨a, u, h1, mu, fun od => ?_⟩
  obtain ⟨r1, t1⟩ := lk od
  refine lc_gen gk (A.step r1 t1) (QA := fun acc m' => ∀ p, p ≠ a → m' p = none → Qm (.ref p) (mput (mput m' a o) p (.lst acc))) ⟨.ref a, ei, o, ds, mput_same, ky, q⟩ fun acc m' L H' qa mL r t hL => ?_
  obtain ⟨z1, z2, z3⟩ := unlock_go A.r e ky h1 h2 mu r t
  have ne : L ≠ a := by
    rintro rfl
    obtain ⟨xs, hL⟩ := hL
    rw [z1] at hL; cases hL
  refine ⟨z1, ?_⟩
  have := qa L ne mL
  rw [mput_comm (Ne.symm ne)] at this
  exact k _ _ _ _ this z2 z3 Rep.ref
/-- for k in d, d the dict in slot i -/
def wForK (i : Nat) (g : TGm) (tb : TSm) : TSm := fun E ρ m => ∃ a o ds, ρ[i]? = some (some (.ref a)) ∧ m a = some o ∧ keysO o ds ∧
  forC (fun _ => True) g tb { nx := fun ρ' m' => E.nx ρ' (mput m' a o), rt := fun d m' => E.rt d (mput m' a o), bk := fun ρ' m' => E.bk ρ' (mput m' a o), ct := fun ρ' m' => E.ct ρ' (mput m' a o) } ds ρ (mput m a (.frz o))
theorem ms_forK {i : Nat} {g : TGm} {tb : TSm} (hp : PassesOwn (model X.prog X.w) X.A X.env X.xe) (hc : X.calm = true) (hi : MX X B iter (wVar i)) (hg : MG X B tg g) (hb : MSs X B body tb)
    (hs : ∀ x, foldedSetIterable iter X.env x = pure x := by intro _; rfl) : MS X B (.For tg iter body [] pos) (wForK i g tb) := psImp (ps_lock (ms_for hp hc (mi_keys hi) hg hb hs)) fun D σ H ⟨ρ, m, E, A, ⟨a, o, ds, ei, e, ky, q⟩, n, rt, bk, ct⟩ => by
  obtain ⟨u, h1, mu, w, lk⟩ := lock_go A.r e ky
  obtain ⟨u', h1', h2⟩ := A.r a o e
  rw [h1] at h1'; cases h1'
  refine ⟨a, u, h1, mu, fun od => ?_⟩
  obtain ⟨r1, t1⟩ := lk od
  refine ⟨ρ, mput m a (.frz o), _, A.step r1 t1, ⟨.ref a, ei, o, ds, mput_same, ky, q⟩, ?_, ?_, ?_, ?_⟩
  · intro ρ' m' σ' H' q' r' t' s'
    obtain ⟨z1, z2, z3⟩ := unlock_go A.r e ky h1 h2 mu r' t'
    refine ⟨z1, n _ _ _ _ q' z2 z3 (s'.stay ?_)⟩
    exact (unlock_tups r' z1 mu)
  · intro d m' v H' q' r' t' x'
    obtain ⟨z1, z2, z3⟩ := unlock_go A.r e ky h1 h2 mu r' t'
    exact ⟨z1, rt _ _ _ _ q' z2 z3 (x'.stay (unlock_tups r' z1 mu))⟩
  · intro ρ' m' σ' H' q' r' t' s'
    obtain ⟨z1, z2, z3⟩ := unlock_go A.r e ky h1 h2 mu r' t'
    exact ⟨z1, bk _ _ _ _ q' z2 z3 (s'.stay (unlock_tups r' z1 mu))⟩
  · intro ρ' m' σ' H' q' r' t' s'
    obtain ⟨z1, z2, z3⟩ := unlock_go A.r e ky h1 h2 mu r' t'
    exact ⟨z1, ct _ _ _ _ q' z2 z3 (s'.stay (unlock_tups r' z1 mu))⟩
/-! ### dict(d) -/
def wDict1 : RLm := fun ds m Q => match ds with
  | [.ref a] => ∃ kvs, rdM m a = some (.dK kvs) ∧ newO (.dK kvs) m Q
  | _ => False
theorem mc_dict1 : MCall X (.type "dict") wDict1 := mcall_of call_dictD fun ds vs H m Q Qm hx r q k => by
  unfold wDict1 at q; split at q
  · obtain ⟨v, e, x⟩ := reps1 hx
    rw [Rep.ref_iff.mp x] at e
    obtain ⟨kvs, e1, q⟩ := q
    obtain ⟨u, h1, xs, rfl, kv⟩ := rd_go r e1
    exact ⟨_, xs, e, h1, new_go q r Step.refl ⟨_, rfl, kv⟩ k⟩
  · exact q.elim
end
end Mm
namespace Mm
open PySem L2
open PyProof.Rows (envOfC)

/-! ### x in y -/
def flD : D → Bool
  | .int _ => true
  | .str _ => true
  | .bl _ => true
  | .non => true
  | _ => false
def eqF : D → D → Bool
  | .int i, .int j => i == j
  | .str i, .str j => i == j
  | .bl i, .bl j => i == j
  | .non, .non => true
  | .bl i, .int j => (if i then 1 else 0) == j
  | .int j, .bl i => j == (if i then 1 else 0)
  | _, _ => false
def seqD (m : Mem) (y : D) (ds : List D) : Prop := y = .tup ds ∨ ∃ a, y = .ref a ∧ rdM m a = some (.lst ds)
/-- x in y gives k -/
def InB (m : Mem) (x y : D) (k : Bool) : Prop :=
  (∃ ds, seqD m y ds ∧ flD x = true ∧ ds.all flD = true ∧ k = ds.any fun z => eqF z x) ∨
  (∃ c z, x = .str ⟨#[c]⟩ ∧ y = .str z ∧ k = decide (c ∈ z.cps.toList)) ∨
  (∃ a o r, y = .ref a ∧ rdM m a = some o ∧ getO o x r ∧ k = r.isSome) ∨
  ∃ t ts, Vw m x t ∧ Vw m y (.list ts) ∧ SeqAt.shaped t = true ∧ SeqAt.shaped (.list ts) = true ∧ k = ts.any fun z => PyData.eqv z t
theorem seqD_go {K : PySem.W.Frag} {H : Hp} {m : Mem} {y : D} {v : V} {ds : List D} (r : RM K H m) (h : seqD m y ds) (x : Rep K H y v) : ∃ p xs, v = .ref p ∧ (SqL K H p xs ∨ SqT K H p xs) ∧ Reps K H ds xs := by
  rcases h with rfl | ⟨a, rfl, e⟩
  · obtain ⟨a, xs, e, s, rr⟩ := Rep.tup_iff.mp x
    exact ⟨a, xs, e, .inr s.sq, rr⟩
  · obtain ⟨xs, s, rr⟩ := rd_lst r e
    exact ⟨a, xs, Rep.ref_iff.mp x, .inl s, rr⟩
theorem flD_flat {K : PySem.W.Frag} {H : Hp} {x : D} {v : V} (h : flD x = true) (r : Rep K H x v) : flatV v = true := by
  cases x with
  | int i => rw [Rep.int_iff.mp r]; rfl
  | str i => rw [Rep.str_iff.mp r]; rfl
  | bl i => rw [Rep.bl_iff.mp r]; rfl
  | non => rw [Rep.non_iff.mp r]; rfl
  | _ => cases h
theorem eqF_eqV {K : PySem.W.Frag} {H : Hp} {x z : D} {v w : V} (hx : flD x = true) (hz : flD z = true) (rx : Rep K H x v) (rz : Rep K H z w) : eqV w v = eqF z x := by
  cases x with
  | int i =>
    rw [Rep.int_iff.mp rx]
    cases z with
    | int j => rw [Rep.int_iff.mp rz]; simp [eqV, eqF]
    | str j => rw [Rep.str_iff.mp rz]; simp [eqV, eqF]
    | bl j => rw [Rep.bl_iff.mp rz]; simp [eqV, eqF]
    | non => rw [Rep.non_iff.mp rz]; simp [eqV, eqF]
    | _ => cases hz
  | str i =>
    rw [Rep.str_iff.mp rx]
    cases z with
    | int j => rw [Rep.int_iff.mp rz]; simp [eqV, eqF]
    | str j => rw [Rep.str_iff.mp rz]; simp [eqV, eqF]
    | bl j => rw [Rep.bl_iff.mp rz]; simp [eqV, eqF]
    | non => rw [Rep.non_iff.mp rz]; simp [eqV, eqF]
    | _ => cases hz
  | bl i =>
    rw [Rep.bl_iff.mp rx]
    cases z with
    | int j => rw [Rep.int_iff.mp rz]; simp [eqV, eqF]
    | str j => rw [Rep.str_iff.mp rz]; simp [eqV, eqF]
    | bl j => rw [Rep.bl_iff.mp rz]; simp [eqV, eqF]
    | non => rw [Rep.non_iff.mp rz]; simp [eqV, eqF]
    | _ => cases hz
  | non =>
    rw [Rep.non_iff.mp rx]
    cases z with
    | int j => rw [Rep.int_iff.mp rz]; simp [eqV, eqF]
    | str j => rw [Rep.str_iff.mp rz]; simp [eqV, eqF]
    | bl j => rw [Rep.bl_iff.mp rz]; simp [eqV, eqF]
    | non => rw [Rep.non_iff.mp rz]; simp [eqV, eqF]
    | _ => cases hz
  | _ => cases hx
theorem inV_go {K : PySem.W.Frag} {H : Hp} {x : D} {v : V} (hx : flD x = true) (rx : Rep K H x v) : ∀ {ds : List D} {xs : List V}, ds.all flD = true → Reps K H ds xs → xs.all flatV = true ∧ inV v xs = ds.any fun z => eqF z x
  | [], _, _, r => by rw [Reps.nil_iff.mp r]; exact ⟨rfl, rfl⟩
  | z :: ds, _, h, r => by
    obtain ⟨w, ws, rfl, r1, r2⟩ := Reps.cons_iff.mp r
    have h1 : flD z = true ∧ ds.all flD = true := by simpa using h
    obtain ⟨i1, i2⟩ := inV_go hx rx h1.2 r2
    refine ⟨by rw [List.all_cons, flD_flat h1.1 r1, i1]; rfl, ?_⟩
    unfold inV at i2 ⊢
    rw [List.any_cons, List.any_cons, i2, eqF_eqV hx h1.1 rx r1]
section
variable {X : Cx}
def rDI (neg : Bool) : R2 := fun y x H Q => ∃ a o, x = .ref a ∧ DGet H a y o ∧ Q (.bl (if neg then !o.isSome else o.isSome)) H
theorem op_inDk (hu : X.A.units + 1 < cLine) : OpR X (compareOp .In) (rDI false) := by
  intro pins s σ H y x v u Q I ry rx h
  obtain ⟨a, o, rfl, g, q⟩ := h
  obtain rfl : u = Value.ref a := rx
  exact d_in hu I g ry fun s3 I3 => ⟨.bl o.isSome, H, I3, rfl, q⟩
theorem op_notinDk (hu : X.A.units + 1 < cLine) : OpR X (compareOp .NotIn) (rDI true) := by
  intro pins s σ H y x v u Q I ry rx h
  obtain ⟨a, o, rfl, g, q⟩ := h
  obtain rfl : u = Value.ref a := rx
  exact d_notIn hu I g ry fun s3 I3 => ⟨.bl (!o.isSome), H, I3, rfl, q⟩
def wInn : R2m := fun x y m Q => ∃ k, InB m x y k ∧ Q (.bl k) m
def wNotInn : R2m := fun x y m Q => ∃ k, InB m x y k ∧ Q (.bl (!k)) m
theorem mo_in {k : Nat} (hr : Room k X.A) : MOp X (compareOp .In) wInn := mop_of (OpR.or op_in_seq (OpR.or op_in_sign (OpR.or (op_inDk (hu1 hr)) (op_inD (hu65 hr))))) fun x y v w H m Q Qm hx hy r q k => by
  obtain ⟨b, h, q⟩ := q
  have fin := k _ _ _ _ q r Step.refl Rep.bl
  rcases h with ⟨ds, sd, fx, fa, e⟩ | ⟨c, z, rfl, rfl, e⟩ | ⟨a, o, ro, rfl, e1, g, e⟩ | ⟨t, ts, h1, h2, s1, s2, e⟩
  · obtain ⟨p, xs, e1, s, rr⟩ := seqD_go r sd hy
    obtain ⟨i1, i2⟩ := inV_go fx hx fa rr
    exact .inl ⟨p, xs, e1, s, flD_flat fx hx, i1, by rw [i2, ← e]; exact fin⟩
  · exact .inr (.inl ⟨c, z, Rep.str_iff.mp hx, Rep.str_iff.mp hy, by rw [← e]; exact fin⟩)
  · obtain ⟨r', g', h1, h2⟩ := get_go r e1 g hx
    have e2 : r'.isSome = ro.isSome := by
      cases ro with
      | none => rw [h2 rfl]; rfl
      | some d => obtain ⟨w', e2, _⟩ := h1 d rfl; rw [e2]; rfl
    exact .inr (.inr (.inl ⟨a, r', Rep.ref_iff.mp hy, g', by rw [e2, ← e]; exact fin⟩))
  · exact .inr (.inr (.inr ⟨t, ts, h1.dp r _ _ _ hx, h2.dp r _ _ _ hy, s1, s2, by rw [← e]; exact fin⟩))
theorem mo_notin {k : Nat} (hr : Room k X.A) : MOp X (compareOp .NotIn) wNotInn := mop_of (OpR.or op_notIn_seq (OpR.or op_notIn_sign (OpR.or (op_notinDk (hu1 hr)) (op_notInD (hu65 hr))))) fun x y v w H m Q Qm hx hy r q k => by
  obtain ⟨b, h, q⟩ := q
  have fin := k _ _ _ _ q r Step.refl Rep.bl
  rcases h with ⟨ds, sd, fx, fa, e⟩ | ⟨c, z, rfl, rfl, e⟩ | ⟨a, o, ro, rfl, e1, g, e⟩ | ⟨t, ts, h1, h2, s1, s2, e⟩
  · obtain ⟨p, xs, e1, s, rr⟩ := seqD_go r sd hy
    obtain ⟨i1, i2⟩ := inV_go fx hx fa rr
    exact .inl ⟨p, xs, e1, s, flD_flat fx hx, i1, by rw [if_pos rfl, i2, ← e]; exact fin⟩
  · exact .inr (.inl ⟨c, z, Rep.str_iff.mp hx, Rep.str_iff.mp hy, by rw [← e]; exact fin⟩)
  · obtain ⟨r', g', h1, h2⟩ := get_go r e1 g hx
    have e2 : r'.isSome = ro.isSome := by
      cases ro with
      | none => rw [h2 rfl]; rfl
      | some d => obtain ⟨w', e2, _⟩ := h1 d rfl; rw [e2]; rfl
    exact .inr (.inr (.inl ⟨a, r', Rep.ref_iff.mp hy, g', by rw [if_pos rfl, e2, ← e]; exact fin⟩))
  · exact .inr (.inr (.inr ⟨t, ts, h1.dp r _ _ _ hx, h2.dp r _ _ _ hy, s1, s2, by rw [← e]; exact fin⟩))
end
section
variable {m : Mem} {Q : KM} {x y : D}
theorem i_in {k : Bool} (e : InB m x y k) (h : Q (.bl k) m) : wInn x y m Q := ⟨k, e, h⟩
theorem i_notin {k : Bool} (e : InB m x y k) (h : Q (.bl (!k)) m) : wNotInn x y m Q := ⟨k, e, h⟩
theorem in_tup {ds : List D} (h1 : flD x = true) (h2 : ds.all flD = true) : InB m x (.tup ds) (ds.any fun z => eqF z x) := .inl ⟨ds, .inl rfl, h1, h2, rfl⟩
theorem in_lst {a : Addr} {ds : List D} (e : rdM m a = some (.lst ds)) (h1 : flD x = true) (h2 : ds.all flD = true) : InB m x (.ref a) (ds.any fun z => eqF z x) := .inl ⟨ds, .inr ⟨a, rfl, e⟩, h1, h2, rfl⟩
theorem in_sign {c : Nat} {z : Str} : InB m (.str ⟨#[c]⟩) (.str z) (decide (c ∈ z.cps.toList)) := .inr (.inl ⟨c, z, rfl, rfl, rfl⟩)
theorem in_dK {a : Addr} {kvs : List (Key × D)} {k : Key} (e : rdM m a = some (.dK kvs)) : InB m (kD k) (.ref a) (valD kvs k).isSome := .inr (.inr (.inl ⟨a, _, _, rfl, e, ⟨k, rfl, rfl⟩, rfl⟩))
end
end Mm
namespace Mm
open PySem L2
open PyProof.Rows (envOfC)
section
variable {m : Mem} {a : Addr}
theorem rd_K {kvs : List (Key × D)} (h : m a = some (.dK kvs)) : rdM m a = some (.dK kvs) := rd_of h trivial
theorem rd_T {kvs : List (List Key × D)} (h : m a = some (.dT kvs)) : rdM m a = some (.dT kvs) := rd_of h trivial
theorem rd_L {ds : List D} (h : m a = some (.lst ds)) : rdM m a = some (.lst ds) := rd_of h trivial
theorem rd_I {C : Addr} {fs : List (Str × D)} (h : m a = some (.ins C fs)) : rdM m a = some (.ins C fs) := rd_of h trivial
end
section
variable {E : EndsM} {ρ : StM} {m : Mem} {Q : KM} {chk : Mem → Prop} {g : TGm} {tb : TSm} {ds : List D} {tt : TTm} {te : TEm} {vs : List Nat}
theorem i_for {ti : TIm} (h : ti ρ m fun ds chk m1 => forC chk g tb E ds ρ m1) : wFor ti g tb E ρ m := h
theorem i_lc {ti : TIm} (h : ti ρ m fun ds chk m1 => lcC chk g tt te vs ρ (fun acc m' => newO (.lst acc) m' Q) ds [] m1) : wLc ti g tt te vs ρ m Q := h
/-- a loop, by what holds ahead of the items that are left -/
theorem forC_ind (P : List D → StM → Mem → Prop) (h0 : P ds ρ m) (hn : ∀ ρ m, P [] ρ m → chk m ∧ E.nx ρ m)
    (hc : ∀ d r ρ m (K : StM → Mem → Prop), (∀ ρ m, P r ρ m → K ρ m) → P (d :: r) ρ m → chk m ∧ g d ρ m fun ρ2 m2 => tb { E with nx := K, ct := K, bk := E.nx } ρ2 m2) : forC chk g tb E ds ρ m := by
  induction ds generalizing ρ m with
  | nil => exact hn ρ m h0
  | cons d r ih => exact hc d r ρ m _ (fun ρ m h => ih h) h0
/-- a comprehension, likewise -/
theorem lcC_ind {QA : List D → Mem → Prop} {acc : List D} (P : List D → List D → Mem → Prop) (h0 : P ds acc m) (hn : ∀ acc m, P [] acc m → chk m ∧ QA acc m)
    (hc : ∀ d r acc m (K : List D → Mem → Prop), (∀ acc m, P r acc m → K acc m) → P (d :: r) acc m → chk m ∧ g d (wipeM ρ vs) m fun ρ2 m2 => wipeM ρ2 vs = wipeM ρ vs ∧ tt ρ2 m2 fun b m3 => if b = true then te ρ2 m3 fun y m4 => acc.length < sizeLine ∧ K (acc ++ [y]) m4 else K acc m3) :
    lcC chk g tt te vs ρ QA ds acc m := by
  induction ds generalizing acc m with
  | nil => exact hn acc m h0
  | cons d r ih => exact hc d r acc m _ (fun acc m h => ih h) h0
/-- a comprehension whose element is reckoned and changes nothing -/
theorem lcC_pure {QA : List D → Mem → Prop} (f : D → D) (hl : ds.length ≤ sizeLine) (hk : chk m) (hb : ∀ d ∈ ds, ∀ R : KM, R (f d) m → g d (wipeM ρ vs) m fun ρ2 m2 => wipeM ρ2 vs = wipeM ρ vs ∧ te ρ2 m2 R) (q : QA (ds.map f) m) :
    lcC chk g wYes te vs ρ QA ds [] m := by
  refine lcC_ind (fun r acc m' => m' = m ∧ ∃ p, ds = p ++ r ∧ acc = p.map f) ⟨rfl, [], by simp, rfl⟩ ?_ ?_
  · rintro acc m' ⟨rfl, p, e, rfl⟩
    rw [List.append_nil] at e
    subst e
    exact ⟨hk, q⟩
  · rintro d r acc m' K hK ⟨rfl, p, e, rfl⟩
    refine ⟨hk, ?_⟩
    have hd : d ∈ ds := by rw [e]; simp
    have := hb d hd (fun y m4 => (p.map f).length < sizeLine ∧ K (p.map f ++ [y]) m4) ⟨by
      have : ds.length = p.length + (r.length + 1) := by rw [e]; simp
      rw [List.length_map]; omega, hK _ _ ⟨rfl, p ++ [d], by rw [e]; simp, by simp⟩⟩
    exact this
/-- .. with a test -/
theorem lcC_pureIf {QA : List D → Mem → Prop} (f : D → D) (c : D → Bool) (hl : ds.length ≤ sizeLine) (hk : chk m)
    (hb : ∀ d ∈ ds, ∀ R : Bool → Mem → KM → Prop, (R (c d) m fun y m2 => y = f d ∧ m2 = m) → True) (q : QA ((ds.filter c).map f) m)
    (ht : ∀ d ∈ ds, ∀ (R : List D → Mem → Prop) (acc : List D), acc.length < sizeLine → (if c d = true then R (acc ++ [f d]) m else R acc m) → g d (wipeM ρ vs) m fun ρ2 m2 => wipeM ρ2 vs = wipeM ρ vs ∧ tt ρ2 m2 fun b m3 => if b = true then te ρ2 m3 fun y m4 => acc.length < sizeLine ∧ R (acc ++ [y]) m4 else R acc m3) :
    lcC chk g tt te vs ρ QA ds [] m := by
  refine lcC_ind (fun r acc m' => m' = m ∧ ∃ p, ds = p ++ r ∧ acc = (p.filter c).map f) ⟨rfl, [], by simp, rfl⟩ ?_ ?_
  · rintro acc m' ⟨rfl, p, e, rfl⟩
    rw [List.append_nil] at e
    subst e
    exact ⟨hk, q⟩
  · rintro d r acc m' K hK ⟨rfl, p, e, rfl⟩
    refine ⟨hk, ?_⟩
    have hd : d ∈ ds := by rw [e]; simp
    have hlen : ((p.filter c).map f).length < sizeLine := by
      have h1 : ds.length = p.length + (r.length + 1) := by rw [e]; simp
      have h2 := List.length_filter_le c p
      rw [List.length_map]; omega
    refine ht d hd K _ hlen ?_
    cases hcd : c d with
    | true => rw [if_pos rfl]; exact hK _ _ ⟨rfl, p ++ [d], by rw [e]; simp, by simp [hcd]⟩
    | false => rw [if_neg Bool.false_ne_true]; exact hK _ _ ⟨rfl, p ++ [d], by rw [e]; simp, by simp [hcd]⟩
theorem i_iL {a : Addr} {R : List D → (Mem → Prop) → Mem → Prop} (e : rdM m a = some (.lst ds)) (h : R ds (fun m' => rdM m' a = some (.lst ds)) m) : ∃ ds, rdM m a = some (.lst ds) ∧ R ds (fun m' => rdM m' a = some (.lst ds)) m := ⟨ds, e, h⟩
/-- over a new list, forgotten while it is walked -/
theorem i_iH {a : Addr} {m0 : Mem} {R : List D → (Mem → Prop) → Mem → Prop} (hm : m = mput m0 a (.lst ds)) (hn : m0 a = none) (h : R ds (fun _ => True) m0) : ∃ ds m0, rdM m a = some (.lst ds) ∧ Sub m0 m ∧ Nm m0 a ∧ R ds (fun _ => True) m0 := by
  subst hm
  exact ⟨ds, m0, rd_of mput_same trivial, fun b o e => mput_new hn e, .inl hn, h⟩
end
end Mm
namespace Mm
open PySem L2
open PyProof.Rows (envOfC)
theorem mput_off {m : Mem} {a b : Addr} {o o' : O} (h : a ≠ b) (e : m a = some o) : mput m b o' a = some o := (mput_ne h).trans e
theorem mput_off' {m : Mem} {a b : Addr} {o o' : O} (h : b ≠ a) (e : m a = some o) : mput m b o' a = some o := (mput_ne h.symm).trans e
def keyP (p : D × D) : Key × D := (match p.1 with | .str s => .inr s | .int i => .inl i | _ => .inl 0, p.2)
theorem i_disp {ps : List (TEm × TEm)} {ρ : StM} {m : Mem} {Q : KM} (h : wPairs ps ρ m fun prs m' => ∃ kvs : List (Key × D), prs = kvs.map (fun kv => (kD kv.1, kv.2)) ∧ kvs.length ≤ 15 ∧ newO (.dK (mergeD [] kvs)) m' Q) : wDisp ps ρ m Q := h
theorem i_pN {ρ : StM} {m : Mem} {Q : List (D × D) → Mem → Prop} (h : Q [] m) : wPairs [] ρ m Q := h
theorem i_pC {tk tv : TEm} {r : List (TEm × TEm)} {ρ : StM} {m : Mem} {Q : List (D × D) → Mem → Prop} (h : tk ρ m fun x m1 => tv ρ m1 fun y m2 => wPairs r ρ m2 fun ps m3 => Q ((x, y) :: ps) m3) : wPairs ((tk, tv) :: r) ρ m Q := h
theorem i_dispE {prs : List (D × D)} {m : Mem} {Q : KM} (e : prs = (prs.map keyP).map fun kv => (kD kv.1, kv.2)) (z : prs.length ≤ 15) (h : newO (.dK (mergeD [] (prs.map keyP))) m Q) : ∃ kvs : List (Key × D), prs = kvs.map (fun kv => (kD kv.1, kv.2)) ∧ kvs.length ≤ 15 ∧ newO (.dK (mergeD [] kvs)) m Q := ⟨_, e, by rw [List.length_map]; exact z, h⟩
theorem ty_L {m : Mem} {a : Addr} {ds : List D} (e : rdM m a = some (.lst ds)) : tyD m (.ref a) = some "list" := by
  unfold rdM at e
  show (match m a with | some (.lst _) => some "list" | some (.dK _) => some "dict" | some (.dT _) => some "dict" | some (.frz (.lst _)) => some "list" | _ => none) = _
  cases q : m a with
  | none => rw [q] at e; cases e
  | some o =>
    rw [q] at e
    cases o with
    | frz o => cases e; rfl
    | _ => cases e <;> rfl
theorem ty_K {m : Mem} {a : Addr} {kvs : List (Key × D)} (e : m a = some (.dK kvs)) : tyD m (.ref a) = some "dict" := by
  show (match m a with | some (.lst _) => some "list" | some (.dK _) => some "dict" | some (.dT _) => some "dict" | some (.frz (.lst _)) => some "list" | _ => none) = _
  rw [e]
theorem i_powL {i j : Int} {m : Mem} {Q : KM} {g : Int → Int → D} (c : 0 ≤ j ∧ j ≤ 1000000 ∧ i.natAbs < 18446744073709551616) (h : Q (g i j) m) : wI CPow g (.int i) (.int j) m Q := ⟨c, h⟩
theorem i_timesLL {i j : Int} {m : Mem} {Q : KM} (c : (-18446744073709551616 < i ∧ i < 18446744073709551616) ∨ (-18446744073709551616 < j ∧ j < 18446744073709551616)) (h : Q (.int (i * j)) m) : wTimes (.int i) (.int j) m Q := ⟨.inl c, h⟩
theorem i_divW {i j : Int} {m : Mem} {Q : KM} {g : Int → Int → D} (c : 0 < j) (c2 : j < 9223372036854775808) (h : Q (g i j) m) : wI CDivW g (.int i) (.int j) m Q := ⟨⟨c, by
  have := PySem.Flt.log2_lt_of (n := j.natAbs) (k := 63) (by decide) (by omega)
  omega⟩, h⟩
theorem i_mod {i j : Int} {m : Mem} {Q : KM} {g : Int → Int → D} (c : 0 < j) (h : Q (g i j) m) : wI (fun _ j => 0 < j) g (.int i) (.int j) m Q := ⟨c, h⟩
/-! ### where the law begins: the script, as it stands -/
theorem law_start {K : PySem.W.Frag} {H : Hp} {a : Addr} {ns : List Int} (h : SqL K H a (ns.map V.int)) : ∃ m, RM K H m ∧ LsK K m a ns := by
  rcases h with (h | ⟨o, h⟩) | h
  · refine ⟨fun b => if b = a then some (.lst (ns.map .int)) else none, fun b o e => ?_, .inl ?_⟩
    · by_cases c : b = a
      · subst c
        dsimp only at e
        rw [if_pos rfl] at e; cases e
        exact ⟨_, h, _, rfl, Reps.ints ns⟩
      · dsimp only at e
        rw [if_neg c] at e; cases e
    · exact rd_L (if_pos rfl)
  · refine ⟨fun b => if b = a then some (.frz (.lst (ns.map .int))) else none, fun b o e => ?_, .inl ?_⟩
    · by_cases c : b = a
      · subst c
        dsimp only at e
        rw [if_pos rfl] at e; cases e
        exact ⟨_, h, _, _, rfl, _, rfl, Reps.ints ns⟩
      · dsimp only at e
        rw [if_neg c] at e; cases e
    · exact rd_frz (if_pos rfl)
  · refine ⟨fun _ => none, fun b o e => ?_, Or.inr h⟩
    cases e
/-- what law(script) promises -/
def spLaw (K : PySem.W.Frag) : SpM := fun ds m Q _ => ∃ (c : Addr) (ns : List Int), ds = [.ref c] ∧ LsK K m c ns ∧ ns.length ≤ 63 ∧ ∀ m', Q (.bl true) m'
theorem spLaw_start {K : PySem.W.Frag} {H : Hp} {a : Addr} {ns : List Int} (hl : ns.length ≤ 63) (h : SqL K H a (ns.map V.int)) : liftSp K (spLaw K) [.ref a] H (fun v _ => v = .bl true) fun _ _ _ => False := by
  obtain ⟨m, r, l⟩ := law_start h
  refine ⟨[.ref a], m, fun d _ => d = .bl true, fun _ _ => False, Reps.cons Rep.ref Reps.nil, r, ⟨a, ns, rfl, l, hl, fun _ => rfl⟩, fun d m' v H' e _ _ x => ?_, fun _ _ _ z => z.elim⟩
  subst e
  exact Rep.bl_iff.mp x
end Mm
namespace Mm
open PySem L2
open PyProof.Rows (envOfC)
section
variable {X : Cx} {B : Bs} {e o : Expr} {pos apos : Pos} {pa pb : TEm}
theorem atI_cons {α : Type} {xs : List α} {i : Nat} {x : α} (h : xs[i]? = some x) : atI xs (i : Int) = some x := atI_nat h
theorem i_sub0 {m : Mem} {Q : KM} {d : D} {ds : List D} (h : Q d m) : wSub (.tup (d :: ds)) (.int 0) m Q := ⟨d, atI_cons (i := 0) rfl, h⟩
theorem i_sub1 {m : Mem} {Q : KM} {x d : D} {ds : List D} (h : Q d m) : wSub (.tup (x :: d :: ds)) (.int 1) m Q := ⟨d, atI_cons (i := 1) rfl, h⟩
theorem i_sub2 {m : Mem} {Q : KM} {x y d : D} {ds : List D} (h : Q d m) : wSub (.tup (x :: y :: d :: ds)) (.int 2) m Q := ⟨d, atI_cons (i := 2) rfl, h⟩
/-! ### str, join -/
def wStr1 : RLm := fun ds m Q => match ds with
  | [.int i] => i.natAbs.log2 < 1920 ∧ Q (.str (Str.ofString (toString i))) m
  | [.str x] => Q (.str x) m
  | _ => False
theorem mc_str1 : MCall X (.type "str") wStr1 := mcall_of (CallR.or call_str_int SkE.call_str_str) fun ds vs H m Q Qm hx r q k => by
  unfold wStr1 at q; split at q
  · obtain ⟨v, e, x⟩ := reps1 hx
    rw [Rep.int_iff.mp x] at e
    exact .inl ⟨_, e, q.1, k _ _ _ _ q.2 r Step.refl Rep.str⟩
  · obtain ⟨v, e, x⟩ := reps1 hx
    rw [Rep.str_iff.mp x] at e
    exact .inr ⟨_, e, k _ _ _ _ q r Step.refl Rep.str⟩
  · exact q.elim
def strAt (d : D) (k : Str → Prop) : Prop := match d with
  | .str a => k a
  | _ => False
theorem i_strAt {a : Str} {k : Str → Prop} (h : k a) : strAt (.str a) k := h
theorem Reps.strs {K : PySem.W.Frag} {H : Hp} : ∀ {ys : List Str} {vs : List V}, Reps K H (ys.map .str) vs → vs = ys.map V.str
  | [], _, h => Reps.nil_iff.mp h
  | y :: ys, _, h => by
    obtain ⟨v, w, rfl, a, b⟩ := Reps.cons_iff.mp h
    rw [Rep.str_iff.mp a, Reps.strs b]; rfl
def wJoinV (a : Str) (y : D) (m : Mem) (Q : KM) : Prop := refAt y fun p => ∃ ys : List Str, rdM m p = some (.lst (ys.map .str)) ∧ (ys.map (·.length)).sum + ys.length * a.length ≤ 16777216 ∧ Q (.str (Txt.join a ys)) m
def wJoin (pa pb : TEm) : TEm := fun ρ m Q => pa ρ m fun x m1 => strAt x fun a => pb ρ m1 fun y m2 => wJoinV a y m2 Q
theorem mx_join (ho : MX X B o pa) (he : MX X B e pb) (hs : starEach [e] X.env = [(false, eval e X.env)] := by rfl) (hbase : attributeBase o "join" X.env (eval o X.env) = eval o X.env := by rfl) (hline : (apos.endLine == pos.line) = true := by rfl) :
    MX X B (.Call (.Attribute o "join" apos) [e] [] pos) (wJoin pa pb) := peImp (pe_join ho he hs hbase hline) fun σ H Q ⟨ρ, m, Qm, A, q, k⟩ => by
  refine ⟨ρ, m, _, A, q, fun x m1 v H1 q1 r1 t1 x1 => ?_⟩
  unfold strAt at q1
  split at q1
  · refine ⟨⟨_, Rep.str_iff.mp x1⟩, ρ, m1, _, A.step r1 t1, q1, fun y m2 w H2 q2 r2 t2 x2 => ?_⟩
    unfold wJoinV refAt at q2
    split at q2
    · obtain ⟨ys, e1, z, q2⟩ := q2
      obtain ⟨xs, s, rr⟩ := rd_lst r2 e1
      rw [Reps.strs rr] at s
      exact ⟨_, _, ys, Rep.str_iff.mp x1, by rw [Rep.ref_iff.mp x2], .inl s, z, k _ _ _ _ q2 r2 (t1.trans t2) Rep.str⟩
    · exact q2.elim
  · exact q1.elim
end
end Mm
namespace Mm
open PySem L2
open PyProof.Rows (envOfC)

/-! ### the order of flat tuples -/
def kLt : Key → Key → Bool
  | .inl i, .inl j => decide (i < j)
  | .inr x, .inr y => decide (x.cps.toList < y.cps.toList)
  | .inl _, .inr _ => true
  | .inr _, .inl _ => false
def lexK : List Key → List Key → Bool
  | [], [] => false
  | [], _ :: _ => true
  | _ :: _, [] => false
  | a :: r, b :: s => if a = b then lexK r s else kLt a b
theorem str_ext {x y : Str} (h : x.cps.toList = y.cps.toList) : x = y := by
  cases x; cases y
  simp only [Str.mk.injEq]
  exact Array.toList_inj.mp h
theorem lt_irr (l : List Nat) : ¬ l < l := List.lt_irrefl l
theorem lt_as {l k : List Nat} (h : l < k) : ¬ k < l := List.lt_asymm h
theorem lt_tr {a b c : List Nat} (h : a < b) (h2 : b < c) : a < c := List.lt_trans h h2
theorem lt_tri {l k : List Nat} (h : ¬ l < k) (h2 : ¬ k < l) : l = k := List.le_antisymm h2 h
theorem kLt_irr (a : Key) : kLt a a = false := by
  cases a with
  | inl i => exact decide_eq_false (by omega)
  | inr x => exact decide_eq_false (lt_irr _)
theorem kLt_as : ∀ {a b : Key}, kLt a b = true → kLt b a = false
  | .inl _, .inl _, h => decide_eq_false (by have := of_decide_eq_true h; omega)
  | .inr _, .inr _, h => decide_eq_false (lt_as (of_decide_eq_true h))
  | .inl _, .inr _, _ => rfl
  | .inr _, .inl _, h => Bool.noConfusion h
theorem kLt_tr : ∀ {a b c : Key}, kLt a b = true → kLt b c = true → kLt a c = true
  | .inl _, .inl _, .inl _, h, h2 => decide_eq_true (by have := of_decide_eq_true h; have := of_decide_eq_true h2; omega)
  | .inr _, .inr _, .inr _, h, h2 => decide_eq_true (lt_tr (of_decide_eq_true h) (of_decide_eq_true h2))
  | .inl _, _, .inr _, _, _ => rfl
  | .inr _, .inl _, _, h, _ => Bool.noConfusion h
  | _, .inr _, .inl _, _, h2 => Bool.noConfusion h2
theorem kLt_tri : ∀ {a b : Key}, kLt a b = false → kLt b a = false → a = b
  | .inl _, .inl _, h, h2 => congrArg Sum.inl (by have := of_decide_eq_false h; have := of_decide_eq_false h2; omega)
  | .inr _, .inr _, h, h2 => congrArg Sum.inr (str_ext (lt_tri (of_decide_eq_false h) (of_decide_eq_false h2)))
  | .inl _, .inr _, h, _ => Bool.noConfusion h
  | .inr _, .inl _, _, h => Bool.noConfusion h
theorem lexK_irr : ∀ a : List Key, lexK a a = false
  | [] => rfl
  | a :: r => by simp only [lexK, if_true]; exact lexK_irr r
theorem lexK_as : ∀ {a b : List Key}, lexK a b = true → lexK b a = false
  | [], [], h => by cases h
  | [], _ :: _, _ => rfl
  | _ :: _, [], h => by cases h
  | a :: r, b :: s, h => by
    simp only [lexK] at h ⊢
    by_cases c : a = b
    · subst c
      simp only [if_true] at h ⊢
      exact lexK_as h
    · rw [if_neg c] at h
      rw [if_neg (fun z => c z.symm)]
      exact kLt_as h
theorem lexK_tri : ∀ {a b : List Key}, lexK a b = false → lexK b a = false → a = b
  | [], [], _, _ => rfl
  | [], _ :: _, h, _ => by cases h
  | _ :: _, [], _, h => by cases h
  | a :: r, b :: s, h, h2 => by
    simp only [lexK] at h h2
    by_cases c : a = b
    · subst c
      simp only [if_true] at h h2
      rw [lexK_tri h h2]
    · rw [if_neg c] at h
      rw [if_neg (fun z => c z.symm)] at h2
      exact absurd (kLt_tri h h2) c
theorem lexK_tr : ∀ {a b c : List Key}, lexK a b = true → lexK b c = true → lexK a c = true
  | [], [], _, h, _ => by cases h
  | [], _ :: _, [], _, h => by cases h
  | [], _ :: _, _ :: _, _, _ => rfl
  | _ :: _, [], _, h, _ => by cases h
  | _ :: _, _ :: _, [], _, h => by cases h
  | a :: r, b :: s, c :: t, h, h2 => by
    simp only [lexK] at h h2 ⊢
    by_cases e1 : a = b
    · subst e1
      simp only [if_true] at h
      by_cases e2 : a = c
      · subst e2
        simp only [if_true] at h2 ⊢
        exact lexK_tr h h2
      · rw [if_neg e2] at h2 ⊢; exact h2
    · rw [if_neg e1] at h
      by_cases e2 : b = c
      · subst e2
        rw [if_neg e1]; exact h
      · rw [if_neg e2] at h2
        have h3 := kLt_tr h h2
        have : a ≠ c := by
          rintro rfl
          rw [kLt_irr] at h3; cases h3
        rw [if_neg this]; exact h3
/-- sorted -/
def SrtK (l : List (List Key)) : Prop := l.Pairwise fun x y => lexK y x = false
theorem srtK_uniq : ∀ {l m : List (List Key)}, SrtK l → SrtK m → l.Perm m → l = m
  | [], m, _, _, p => (List.Perm.eq_nil p.symm).symm
  | x :: l, [], _, _, p => absurd p.length_eq (by simp)
  | x :: l, y :: m, hl, hm, p => by
    have hl' := List.pairwise_cons.mp hl
    have hm' := List.pairwise_cons.mp hm
    have h1 : lexK y x = false := by
      rcases List.mem_cons.mp (p.mem_iff.mpr (List.mem_cons_self (a := y) (l := m))) with e | h
      · rw [e]; exact lexK_irr x
      · exact hl'.1 y h
    have h2 : lexK x y = false := by
      rcases List.mem_cons.mp (p.mem_iff.mp (List.mem_cons_self (a := x) (l := l))) with e | h
      · rw [e]; exact lexK_irr y
      · exact hm'.1 x h
    have e := lexK_tri h2 h1
    subst e
    rw [srtK_uniq hl'.2 hm'.2 p.cons_inv]
theorem lexK_neg {x y z : List Key} (h1 : lexK y x = false) (h2 : lexK z y = false) : lexK z x = false := by
  cases h : lexK z x with
  | false => rfl
  | true =>
    cases h3 : lexK x y with
    | true => rw [lexK_tr h h3] at h2; cases h2
    | false =>
      have := lexK_tri h3 h1
      subst this
      rw [h2] at h; cases h
/-- of one kind, place by place -/
def sameSh : List Key → List Key → Prop
  | [], [] => True
  | .inl _ :: r, .inl _ :: s => sameSh r s
  | .inr _ :: r, .inr _ :: s => sameSh r s
  | _, _ => False
theorem sameSh_len : ∀ {a b : List Key}, sameSh a b → a.length = b.length
  | [], [], _ => rfl
  | .inl _ :: r, .inl _ :: s, h => congrArg (· + 1) (sameSh_len (a := r) (b := s) h)
  | .inr _ :: r, .inr _ :: s, h => congrArg (· + 1) (sameSh_len (a := r) (b := s) h)
  | [], _ :: _, h => by cases h
  | _ :: _, [], h => by simp only [sameSh] at h
  | .inl _ :: _, .inr _ :: _, h => by simp only [sameSh] at h
  | .inr _ :: _, .inl _ :: _, h => by simp only [sameSh] at h
section
variable {prog : Program} {w : World} {A : Around} {E : Value → Shared → Prop} {s : Shared} {Q : Bool → Shared → Prop}
theorem oneLt_strs (c : Bool) {p q : Str} {t u : Tok} (h : Q (decide (p.cps.toList < q.cps.toList)) s) : wpAny (model prog w) A (PyProof.Rows.oneLt' c (.str p t) (.str q u)) Q E s := by
  cases c with
  | true => exact PyProof.Rows.oneLt_str h
  | false => exact PySem.W.kat_one _ _ (PyProof.Rows.lt_str (Q := PySem.W.BoolBack Q) h)
theorem katlex_cols (b : Bool) : ∀ {ks ls : List Key} {us ws : List Value} (i : Nat), Vals (ks.map kV) us → Vals (ls.map kV) ws → sameSh ks ls → Q (lexK ks ls) s → PySem.W.KatLex prog w A b false Q (us.zip ws) i s
  | [], [], _, _, i, ru, rw, _, h => by
    cases ru; cases rw
    exact PySem.W.kat_nil h
  | .inl x :: ks, .inl y :: ls, _, _, i, ru, rw, sh, h => by
    cases ru with
    | cons r1 ru =>
    cases rw with
    | cons r2 rw =>
    obtain ⟨t1, rfl⟩ := r1
    obtain ⟨t2, rfl⟩ := r2
    refine PySem.W.kat_cons (SeqAt.EqAt.int_int x t1 y t2 prog w _ _ ?_)
    refine PySem.W.kat_go (fun e1 => ?_) (fun e1 => ?_)
    · have ex : x = y := by simpa using e1
      subst ex
      refine PySem.W.kat_yes (katlex_cols b (i + 1) ru rw sh ?_)
      simpa only [lexK, if_true] using h
    · have ex : ¬ x = y := by simpa using e1
      refine PySem.W.kat_no (TS.oneLt_ints _ ?_)
      have : ¬ (Sum.inl x : Key) = .inl y := fun z => ex (Sum.inl.inj z)
      simpa only [lexK, if_neg this, kLt] using h
  | .inr x :: ks, .inr y :: ls, _, _, i, ru, rw, sh, h => by
    cases ru with
    | cons r1 ru =>
    cases rw with
    | cons r2 rw =>
    obtain ⟨t1, rfl⟩ := r1
    obtain ⟨t2, rfl⟩ := r2
    refine PySem.W.kat_cons (SeqAt.EqAt.str_str x t1 y t2 prog w _ _ ?_)
    refine PySem.W.kat_go (fun e1 => ?_) (fun e1 => ?_)
    · have ex : x = y := by simpa using e1
      subst ex
      refine PySem.W.kat_yes (katlex_cols b (i + 1) ru rw sh ?_)
      simpa only [lexK, if_true] using h
    · have ex : ¬ x = y := by simpa using e1
      refine PySem.W.kat_no (oneLt_strs _ ?_)
      have : ¬ (Sum.inr x : Key) = .inr y := fun z => ex (Sum.inr.inj z)
      simpa only [lexK, if_neg this, kLt] using h
  | .inl _ :: _, .inr _ :: _, _, _, _, _, _, sh, _ => by simp only [sameSh] at sh
  | .inr _ :: _, .inl _ :: _, _, _, _, _, _, sh, _ => by simp only [sameSh] at sh
  | [], _ :: _, _, _, _, _, _, sh, _ => by simp only [sameSh] at sh
  | _ :: _, [], _, _, _, _, _, sh, _ => by simp only [sameSh] at sh
/-- a tuple of a heap, flat -/
def IsFt (h : Heap) (v : Value) (ks : List Key) : Prop := ∃ a o n its, v = .ref a ∧ h.get? a = some o ∧ o.cls = .type "tuple" ∧ o.data = .seq its n ∧ Vals (ks.map kV) its.toList
theorem IsFt.keeps {h h' : Heap} {v : Value} {ks : List Key} (p : IsFt h v ks) (k : ∀ b o, h.get? b = some o → o.cls = .type "tuple" → h'.get? b = some o) : IsFt h' v ks := by
  obtain ⟨a, o, n, its, e, ho, hc, hd, r⟩ := p
  exact ⟨a, o, n, its, e, k _ _ ho hc, hc, hd, r⟩
theorem ft_cmp {b : Bool} {vs : List Value} {k : Value → List Key} (hp : ∀ v ∈ vs, IsFt s.heap v (k v)) (sh : ∀ v ∈ vs, ∀ u ∈ vs, sameSh (k v) (k u)) : SrtO.Cmp prog w A s (PyProof.Rows.tuples' b) (fun p => p.1 ∈ vs) (SrtO.lt2 fun v u => lexK (k v) (k u)) := by
  intro p q hm hm'
  have h1 := hp _ hm
  have h2 := hp _ hm'
  have hs := sh _ hm _ hm'
  show wpAny (model prog w) A (PyProof.Rows.keyLt' (PyProof.Rows.tuples' b) p.1 q.1) (fun r s' => s' = s ∧ r = lexK (k p.1) (k q.1)) (fun _ _ => False) s
  generalize k p.1 = ks at h1 hs ⊢
  generalize k q.1 = ls at h2 hs ⊢
  obtain ⟨a, o, n, its, e, ho, hc, hd, r1⟩ := h1
  obtain ⟨a', o', n', its', e', ho', hc', hd', r2⟩ := h2
  rw [e, e']
  refine PySem.W.kat_lt ho hd ho' hd' ?_
  have hz : decide (its.size < its'.size) = false := by
    have l1 := r1.length
    have l2 := r2.length
    have l3 := sameSh_len hs
    rw [List.length_map] at l1 l2
    have e1 : its.size = its.toList.length := by simp
    have e2 : its'.size = its'.toList.length := by simp
    exact decide_eq_false (by omega)
  rw [hz]
  exact katlex_cols _ 0 r1 r2 hs ⟨rfl, rfl⟩
theorem ft_firsts {h : Heap} : ∀ {vs : List Value} {ks : Value → List Key} {T : Bool}, (∀ v ∈ vs, IsFt h v (ks v)) → (∀ v ∈ vs, ∃ a r, ks v = a :: r ∧ (match a with | .inl _ => true | .inr _ => false) = T) →
    ∃ fs : List Value, PySem.W.KatTups h vs fs ∧ fs.length = vs.length ∧ ∀ f ∈ fs, if T = true then ∃ x t, f = Value.int x t else ∃ x t, f = Value.str x t
  | [], _, _, _, _ => ⟨[], PySem.W.KatTups.nil, rfl, fun _ hm => by simp at hm⟩
  | v :: vs, ks, T, hp, hT => by
    obtain ⟨fs, h1, h2, h3⟩ := ft_firsts (vs := vs) (ks := ks) (T := T) (fun v' hm => hp v' (List.mem_cons_of_mem _ hm)) fun v' hm => hT v' (List.mem_cons_of_mem _ hm)
    obtain ⟨a, o, n, its, e, ho, hc, hd, r⟩ := hp v (List.mem_cons_self ..)
    obtain ⟨c, cs, ec, eT⟩ := hT v (List.mem_cons_self ..)
    rw [ec, List.map_cons] at r
    subst e
    obtain ⟨u, us, ei, ru, rus⟩ : ∃ u us, its.toList = u :: us ∧ RelV (kV c) u ∧ Vals (cs.map kV) us := by
      generalize its.toList = l at r
      cases r with
      | cons a b => exact ⟨_, _, rfl, a, b⟩
    have e0 : its[0]? = some u := by
      rw [← Array.getElem?_toList, ei]; rfl
    refine ⟨u :: fs, PySem.W.KatTups.cons ho hc hd e0 h1, by rw [List.length_cons, List.length_cons, h2], fun f hm => ?_⟩
    rcases List.mem_cons.mp hm with rfl | hm
    · cases c with
      | inl x =>
        subst eT
        obtain ⟨t, rfl⟩ := ru
        exact ⟨x, t, rfl⟩
      | inr x =>
        subst eT
        obtain ⟨t, rfl⟩ := ru
        exact ⟨x, t, rfl⟩
    · exact h3 f hm
theorem ft_sortableO {a : Addr} {vs : List Value} {k : Value → List Key} {T : Bool} (h0 : 0 < vs.length) (hp : ∀ v ∈ vs, IsFt s.heap v (k v)) (sh : ∀ v ∈ vs, ∀ u ∈ vs, sameSh (k v) (k u)) (hT : ∀ v ∈ vs, ∃ c r, k v = c :: r ∧ (match c with | .inl _ => true | .inr _ => false) = T)
    (ha : ∀ o, s.heap.get? a = some o → o.cls ≠ .type "tuple") : SrtO.SortableO prog w A s a vs fun v u => lexK (k v) (k u) := by
  intro h' keep
  have hp' : ∀ v ∈ vs, IsFt h' v (k v) := fun v hm => (hp v hm).keeps fun b o e c => keep b o (fun z => by subst z; exact ha o e c) e
  obtain ⟨fs, h1, h2, h3⟩ := ft_firsts hp' hT
  refine ⟨PyProof.Rows.tuples' true, fun Q E hq => ?_, ft_cmp hp' sh⟩
  cases T with
  | true =>
    refine PySem.W.kat_kind (T := .type "int") h1 (by omega) (fun f hm => ?_) (by rfl) ?_
    · obtain ⟨x, t, rfl⟩ := h3 f hm
      exact PySem.W.Looks.now
    · have e : (Value.type "int" != Value.type "tuple") = true := by first | decide +kernel | rfl | decide
      rw [e]
      exact hq
  | false =>
    refine PySem.W.kat_kind (T := .type "str") h1 (by omega) (fun f hm => ?_) (by rfl) ?_
    · obtain ⟨x, t, rfl⟩ := h3 f hm
      exact PySem.W.Looks.now
    · have e : (Value.type "str" != Value.type "tuple") = true := by first | decide +kernel | rfl | decide
      rw [e]
      exact hq
theorem swo_lexK {α : Type} (k : α → List Key) : SrtO.Swo fun v u => lexK (k v) (k u) := ⟨fun x y h => lexK_as h, fun x y z h1 h2 => lexK_neg h1 h2⟩
theorem sorted_ft {l : Addr} {vs : List Value} {k : Value → List Key} {T : Bool} {Q : Value → Shared → Prop} (hl : s.heap.IsList l vs.toArray) (hz : vs.length ≤ sizeLine) (hp : ∀ v ∈ vs, IsFt s.heap v (k v)) (sh : ∀ v ∈ vs, ∀ u ∈ vs, sameSh (k v) (k u)) (hT : ∀ v ∈ vs, ∃ c r, k v = c :: r ∧ (match c with | .inl _ => true | .inr _ => false) = T)
    (h : ∀ (h' : Heap) (d : Addr) (out : List Value), SrtO.Srtd (fun v u => lexK (k v) (k u)) out → out.Perm vs → (∀ b o, s.heap.get? b = some o → h'.get? b = some o) → s.heap.objs.size ≤ d → (∃ n, h'.get? d = some (PyProof.Rows.seqObj "list" out.toArray n)) → Q (.ref d) { s with heap := h' }) :
    wpAny (model prog w) A (call (.builtin "sorted") [.ref l]) Q E s := by
  refine SrtO.sorted_ord (swo_lexK k) hl hz (fun h2 h₁ a ha kk => ?_) fun out hs hb => ?_
  · refine ft_sortableO (s := { s with heap := h₁ }) (by omega) (fun v hm => (hp v hm).keeps fun b o e _ => (kk b o e).2) sh hT fun o e => ?_
    have e' : some o = some (PyProof.Rows.seqObj "list" vs.toArray 0) := e.symm.trans ha
    cases e'
    intro c
    exact absurd (Value.type.inj c) (by decide)
  · exact h _ _ out hs hb.perm (fun b o e => PyProof.Rows.sortedAll_old e) (Nat.le_succ _) (PyProof.Rows.sortedAll_at s.heap vs out.toArray)
end
section
variable {X : Cx}
/-- t is the flat tuple k -/
def FtV (K : PySem.W.Frag) (H : Hp) (x : V) (k : List Key) : Prop := ∃ t, x = V.ref t ∧ TupAt K H t (k.map kV) k.length
abbrev FtVs (K : PySem.W.Frag) (H : Hp) : List V → List (List Key) → Prop := Paired (FtV K H)
theorem kV_inj {a b : Key} (h : kV a = kV b) : a = b := by
  cases a <;> cases b <;> simp [kV] at h ⊢ <;> exact h
theorem map_kV_inj : ∀ {a b : List Key}, a.map kV = b.map kV → a = b
  | [], [], _ => rfl
  | x :: a, y :: b, h => by
    rw [List.map_cons, List.map_cons] at h
    injection h with h1 h2
    rw [kV_inj h1, map_kV_inj h2]
  | [], _ :: _, h => by cases h
  | _ :: _, [], h => by cases h
/-- sorted(xs), xs a list of flat tuples of one form -/
def rSortF (K : PySem.W.Frag) : List V → Hp → VK → Prop := fun vs H Q => ∃ (a : Addr) (xs : List V) (ks : List (List Key)) (T : Bool), vs = [V.ref a] ∧ SqL K H a xs ∧ FtVs K H xs ks ∧ (∀ x ∈ ks, ∀ y ∈ ks, sameSh x y) ∧
  (∀ x ∈ ks, ∃ c r, x = c :: r ∧ (match c with | .inl _ => true | .inr _ => false) = T) ∧
  ∀ ys ks' p, FtVs K H ys ks' → SrtK ks' → ks'.Perm ks → H p = none → Q (.ref p) (upd H p (.lst ys))
theorem paired_mem {α β : Type} {R : α → β → Prop} {xs : List α} {ys : List β} (h : Paired R xs ys) : ∀ x ∈ xs, ∃ y ∈ ys, R x y := by
  induction h with
  | nil => intro x hx; cases hx
  | cons a r ih =>
    intro x hx
    rcases List.mem_cons.mp hx with rfl | hx
    · exact ⟨_, List.mem_cons_self .., a⟩
    · obtain ⟨y, hy, ry⟩ := ih x hx
      exact ⟨y, List.mem_cons_of_mem _ hy, ry⟩
theorem paired_map {α β : Type} {R : α → β → Prop} {f : α → β} : ∀ {xs : List α}, (∀ x ∈ xs, R x (f x)) → Paired R xs (xs.map f)
  | [], _ => .nil
  | x :: xs, h => .cons (h x (List.mem_cons_self ..)) (paired_map fun y hy => h y (List.mem_cons_of_mem _ hy))
theorem paired_eq {α β : Type} {R : α → β → Prop} {f : α → β} {xs : List α} {ys : List β} (h : Paired R xs ys) (u : ∀ x ∈ xs, ∀ y, R x y → f x = y) : xs.map f = ys := by
  induction h with
  | nil => rfl
  | cons a r ih =>
    rw [List.map_cons, u _ (List.mem_cons_self ..) _ a, ih fun x hx => u x (List.mem_cons_of_mem _ hx)]
theorem cr_sortF : CallR X (.builtin "sorted") (rSortF X.K) := by
  intro pins s σ H vs us Q I r h
  obtain ⟨a, xs, ks, T, rfl, hs, hx, sh, hT, q⟩ := h
  obtain ⟨its, rv, hl, hz⟩ := I.list hs
  obtain ⟨u, rfl, ru⟩ := vals1 r
  obtain rfl : u = Value.ref a := ru
  have one : ∀ x k k', FtV X.K H x k → FtV X.K H x k' → k = k' := fun x k k' ⟨t, e, h1⟩ ⟨t', e', h2⟩ => by
    rw [e] at e'; cases e'
    exact map_kV_inj (I.tuple_inj h1.sq h2.sq)
  let kf : V → List Key := fun x => Classical.epsilon fun k => FtV X.K H x k
  have kfs : ∀ x ∈ xs, FtV X.K H x (kf x) := fun x hm => by
    obtain ⟨k, _, hk⟩ := paired_mem hx x hm
    exact Classical.epsilon_spec (p := fun k => FtV X.K H x k) ⟨k, hk⟩
  have ek : xs.map kf = ks := paired_eq hx fun x hm y hy => one x _ _ (kfs x hm) hy
  have kin : ∀ x ∈ xs, kf x ∈ ks := fun x hm => by rw [← ek]; exact List.mem_map_of_mem hm
  obtain ⟨e1, e2⟩ := refs_back rv fun x m => by
    obtain ⟨t, e, _⟩ := kfs x m
    exact ⟨t, e⟩
  have mem : ∀ v ∈ its, backV v ∈ xs := fun v hv => by rw [e1]; exact List.mem_map.mpr ⟨_, hv, rfl⟩
  refine sorted_ft (k := fun u => kf (backV u)) (T := T) hl.isList (by rw [← rv.length]; exact hz) (fun v hv => ?_) (fun v hv u hu => sh _ (kin _ (mem v hv)) _ (kin _ (mem u hu))) (fun v hv => hT _ (kin _ (mem v hv))) fun h' d out h1 h2 kp hd hn => ?_
  · obtain ⟨t, rfl⟩ := e2 v hv
    obtain ⟨t', e, ht⟩ := kfs _ (mem _ hv)
    cases e
    obtain ⟨its2, r2, ⟨o, ho, hc, n, hd⟩, _⟩ := I.tuple ht.sq
    exact ⟨t, o, n, its2.toArray, rfl, ho, hc, hd, by rw [List.toList_toArray]; exact r2⟩
  · have h3 : ∀ u ∈ out, ∃ a, u = Value.ref a := fun u hu => e2 u (h2.mem_iff.mp hu)
    obtain ⟨n, hn⟩ := hn
    have hb : (out.map backV).Perm xs := by
      rw [e1]
      exact h2.map backV
    have hy : ∀ y ∈ out.map backV, FtV X.K H y (kf y) := fun y hm => kfs y (hb.mem_iff.mp hm)
    refine ⟨.ref d, upd H d (.lst (out.map backV)), I.laid (t' := s.toks) kp hd ⟨?_, out, n, vals_back h3, hn⟩, rfl, q _ ((out.map backV).map kf) d (paired_map hy) ?_ (by rw [← ek]; exact hb.map kf) (I.hok.fresh hd)⟩
    · rw [hb.length_eq]
      exact hz
    · show List.Pairwise _ _
      rw [List.map_map]
      exact List.pairwise_map.mpr h1
/-- sorted(l), l a list of flat tuples of one form: a new one -/
def wSortF : RLm := fun ds m Q => match ds with
  | [.ref a] => ∃ (ks : List (List Key)) (T : Bool), rdM m a = some (.lst (ks.map fun k => .tup (k.map kD))) ∧ (∀ x ∈ ks, ∀ y ∈ ks, sameSh x y) ∧ (∀ x ∈ ks, ∃ c r, x = c :: r ∧ (match c with | .inl _ => true | .inr _ => false) = T) ∧
      ∀ ys, SrtK ys → ys.Perm ks → newO (.lst (ys.map fun k => .tup (k.map kD))) m Q
  | _ => False
theorem reps_kD {K : PySem.W.Frag} {H : Hp} : ∀ {k : List Key} {vs : List V}, Reps K H (k.map kD) vs → vs = k.map kV
  | [], _, h => Reps.nil_iff.mp h
  | c :: k, _, h => by
    obtain ⟨v, r, e, a, b⟩ := Reps.cons_iff.mp h
    rw [e, reps_kD b, kD_rep a]; rfl
theorem kD_reps {K : PySem.W.Frag} {H : Hp} : ∀ {k : List Key}, Reps K H (k.map kD) (k.map kV)
  | [] => Reps.nil
  | c :: k => Reps.cons rep_kD kD_reps
theorem reps_ft {K : PySem.W.Frag} {H : Hp} : ∀ {ks : List (List Key)} {vs : List V}, Reps K H (ks.map fun k => .tup (k.map kD)) vs → FtVs K H vs ks
  | [], _, h => by rw [Reps.nil_iff.mp h]; exact .nil
  | k :: ks, _, h => by
    obtain ⟨v, r, e, a, b⟩ := Reps.cons_iff.mp h
    subst e
    obtain ⟨t, xs, e2, s, rr⟩ := Rep.tup_iff.mp a
    rw [reps_kD rr, List.length_map] at s
    exact .cons ⟨t, e2, s⟩ (reps_ft b)
theorem ft_reps {K : PySem.W.Frag} {H : Hp} {ks : List (List Key)} {vs : List V} (h : FtVs K H vs ks) : Reps K H (ks.map fun k => .tup (k.map kD)) vs := by
  unfold FtVs at h
  induction h with
  | nil => exact Reps.nil
  | @cons x k xs ks a r ih =>
    obtain ⟨t, e, s⟩ := a
    subst e
    exact Reps.cons (Rep.tup_iff.mpr ⟨t, k.map kV, rfl, by rw [List.length_map]; exact s, kD_reps⟩) ih
theorem mc_sorted1 : MCall X (.builtin "sorted") wSortF := mcall_of cr_sortF fun ds vs H m Q Qm hx r q k => by
  unfold wSortF at q; split at q
  · obtain ⟨v, e, x⟩ := reps1 hx
    rw [Rep.ref_iff.mp x] at e
    obtain ⟨ks, T, h1, sh, hT, q⟩ := q
    obtain ⟨xs, s, rr⟩ := rd_lst r h1
    refine ⟨_, xs, ks, T, e, s, reps_ft rr, sh, hT, fun ys ks' p hy hs hp h => ?_⟩
    exact k _ _ _ _ (q ks' hs hp p (r.out h)) (r.new h ⟨_, rfl, ft_reps hy⟩) (Step.new r h) Rep.ref
  · exact q.elim
end
end Mm
namespace Mm
open PySem L2
open PyProof.Rows (envOfC)
section
variable {X : Cx} {B : Bs} {a b c : Expr} {la : TAm} {pos : Pos}
/-! ### < of numbers or of texts -/
def wLt : R2m := fun x y m Q => match x, y with
  | .int i, .int j => Q (.bl (decide (i < j))) m
  | .str i, .str j => Q (.bl (decide (i.cps.toList < j.cps.toList))) m
  | _, _ => False
theorem mo_ltt : MOp X (compareOp .Lt) wLt := mop_of (OpR.or op_lt op_lt_str) fun x y v w H m Q Qm hx hy r q k => by
  unfold wLt at q
  split at q
  · rw [Rep.int_iff.mp hx, Rep.int_iff.mp hy]
    exact .inl ⟨_, _, rfl, rfl, k _ _ _ _ q r Step.refl Rep.bl⟩
  · exact .inr ⟨_, _, Rep.str_iff.mp hx, Rep.str_iff.mp hy, k _ _ _ _ q r Step.refl Rep.bl⟩
  · exact q.elim
theorem i_ltI {i j : Int} {m : Mem} {Q : KM} (h : Q (.bl (decide (i < j))) m) : wLt (.int i) (.int j) m Q := h
theorem i_ltS {i j : Str} {m : Mem} {Q : KM} (h : Q (.bl (decide (i.cps.toList < j.cps.toList))) m) : wLt (.str i) (.str j) m Q := h
/-! ### three at once -/
def thrAt (ds : List D) (k : D → D → D → Prop) : Prop := match ds with
  | [x, y, z] => k x y z
  | _ => False
theorem i_thr {x y z : D} {k : D → D → D → Prop} (h : k x y z) : thrAt [x, y, z] k := h
def wPar3 (i j l : Nat) (t : TAm) : TSm := fun E ρ m => t ρ m fun ds m1 => thrAt ds fun x y z => E.nx (((ρ.set i (some x)).set j (some y)).set l (some z)) m1
theorem i_par3 {i j l : Nat} {E : EndsM} {ρ : StM} {m : Mem} (h : la ρ m fun ds m1 => thrAt ds fun x y z => E.nx (((ρ.set i (some x)).set j (some y)).set l (some z)) m1) : wPar3 i j l la E ρ m := h
theorem ms_par3 {i j l : Nat} {x y z : Str} {px py pz pt : Pos} {kt k2 pt2} (hc : X.calm = true) (hN : X.N.Nodup) (hi : X.N[i]? = some x) (hj : X.N[j]? = some y) (hl : X.N[l]? = some z) (hij : i ≠ j) (hil : i ≠ l) (hjl : j ≠ l)
    (hx : X.env.scope.names.lookup x = some .local) (hy : X.env.scope.names.lookup y = some .local) (hz : X.env.scope.names.lookup z = some .local) (ha : MA X B [a, b, c] la)
    (hw : swappedStores [.Tuple [.Name x px, .Name y py, .Name z pz] kt pt] (.Tuple [a, b, c] k2 pt2) X.env = pure (some [x, y, z]))
    (hs : swapsWithSole [.Tuple [.Name x px, .Name y py, .Name z pz] kt pt] (.Tuple [a, b, c] k2 pt2) pos.line X.env = pure false := by rfl) :
    MS X B (.Assign [.Tuple [.Name x px, .Name y py, .Name z pz] kt pt] (.Tuple [a, b, c] k2 pt2) pos) (wPar3 i j l la) := psImp (ps_par3 hc hN hi hj hl hij hil hjl hx hy hz ha hw hs) fun D σ H ⟨ρ, m, E, A, q, n, _⟩ => by
  refine ⟨ρ, m, _, A, q, fun ds m1 vs H1 q1 r1 t1 x1 => ?_⟩
  unfold thrAt at q1
  split at q1
  · obtain ⟨v, r, e, y1, y2⟩ := Reps.cons_iff.mp x1
    obtain ⟨w, r', e', z1, z2⟩ := Reps.cons_iff.mp y2
    obtain ⟨u, r'', e'', s1, s2⟩ := Reps.cons_iff.mp z2
    rw [Reps.nil_iff.mp s2] at e''
    subst e'' e'
    exact ⟨v, w, u, e, n _ _ _ _ q1 r1 t1 (Ss.set s1 l (Ss.set z1 j (Ss.set y1 i (A.s.stay (t1.tups A.r)))))⟩
  · exact q1.elim
/-! ### == where one of the two is flat enough; == of lists of dicts -/
def EqM (m : Mem) (x y : D) (k : Bool) : Prop := scD x y = some k ∨ ∃ t u, Vw m x t ∧ Vw m y u ∧ t.canLay0 = true ∧ u.canLay0 = true ∧ min t.depth u.depth ≤ 64 ∧ k = PyData.eqv t u
def rEqM (K : PySem.W.Frag) (neg : Bool) : R2 := fun x y H Q => ∃ d e, Dp K H x d ∧ Dp K H y e ∧ d.canLay0 = true ∧ e.canLay0 = true ∧ min d.depth e.depth ≤ 64 ∧ Q (.bl (if neg then !PyData.eqv d e else PyData.eqv d e)) H
theorem op_eqM (hu : X.A.units + 64 < cLine) : OpR X (compareOp .Eq) (rEqM X.K false) := by
  intro pins s σ H x y v u Q I rx ry h
  obtain ⟨d, e, hd, he, sd, se, hm, q⟩ := h
  obtain ⟨as, r1⟩ := Dp.reads I d x v hd rx
  obtain ⟨bs, r2⟩ := Dp.reads I e y u he ry
  exact SeqAt.compareEq_reads r1 r2 sd se (by omega) ⟨.bl _, H, I, rfl, q⟩
theorem op_neM (hu : X.A.units + 64 < cLine) : OpR X (compareOp .NotEq) (rEqM X.K true) := by
  intro pins s σ H x y v u Q I rx ry h
  obtain ⟨d, e, hd, he, sd, se, hm, q⟩ := h
  obtain ⟨as, r1⟩ := Dp.reads I d x v hd rx
  obtain ⟨bs, r2⟩ := Dp.reads I e y u he ry
  exact SeqAt.compareNe_reads r1 r2 sd se (by omega) ⟨.bl _, H, I, rfl, q⟩
def wEqM : R2m := fun x y m Q => ∃ k, EqM m x y k ∧ Q (.bl k) m
def wNeM : R2m := fun x y m Q => ∃ k, EqM m x y k ∧ Q (.bl (!k)) m
theorem i_eqM {x y : D} {m : Mem} {Q : KM} {k : Bool} (e : EqM m x y k) (h : Q (.bl k) m) : wEqM x y m Q := ⟨k, e, h⟩
theorem i_neM {x y : D} {m : Mem} {Q : KM} {k : Bool} (e : EqM m x y k) (h : Q (.bl (!k)) m) : wNeM x y m Q := ⟨k, e, h⟩
theorem mo_eqM {k : Nat} (hr : Room k X.A) : MOp X (compareOp .Eq) wEqM := mop_of (OpR.or op_eq (op_eqM (hu64 hr))) fun x y v w H m Q Qm hx hy r q k => by
  obtain ⟨b, h, q⟩ := q
  have fin := k _ _ _ _ q r Step.refl Rep.bl
  rcases h with h | ⟨t, u, h1, h2, s1, s2, hm, e⟩
  · obtain ⟨z1, z2⟩ := scD_of hx hy h
    exact .inl ⟨z1, by rw [z2]; exact fin⟩
  · exact .inr ⟨t, u, h1.dp r _ _ _ hx, h2.dp r _ _ _ hy, s1, s2, hm, by rw [if_neg Bool.false_ne_true, ← e]; exact fin⟩
theorem mo_neM {k : Nat} (hr : Room k X.A) : MOp X (compareOp .NotEq) wNeM := mop_of (OpR.or op_ne (op_neM (hu64 hr))) fun x y v w H m Q Qm hx hy r q k => by
  obtain ⟨b, h, q⟩ := q
  have fin := k _ _ _ _ q r Step.refl Rep.bl
  rcases h with h | ⟨t, u, h1, h2, s1, s2, hm, e⟩
  · obtain ⟨z1, z2⟩ := scD_of hx hy h
    exact .inl ⟨z1, by rw [z2]; exact fin⟩
  · exact .inr ⟨t, u, h1.dp r _ _ _ hx, h2.dp r _ _ _ hy, s1, s2, hm, by rw [if_pos rfl, ← e]; exact fin⟩
/-- two lists of dicts of the same flat things under the same keys, pairwise -/
def SameL (m : Mem) : List D → List D → Prop
  | [], [] => True
  | x :: xs, y :: ys => (∃ a b, x = .ref a ∧ y = .ref b ∧ SameD m a b) ∧ SameL m xs ys
  | _, _ => False
def wEqL : R2m := fun x y m Q => refAt x fun a => refAt y fun b => ∃ xs ys, rdM m a = some (.lst xs) ∧ rdM m b = some (.lst ys) ∧ SameL m xs ys ∧ Q (.bl true) m
theorem i_eqL {a b : Addr} {m : Mem} {Q : KM} {xs ys : List D} (h1 : rdM m a = some (.lst xs)) (h2 : rdM m b = some (.lst ys)) (h : SameL m xs ys) (q : Q (.bl true) m) : wEqL (.ref a) (.ref b) m Q := ⟨xs, ys, h1, h2, h, q⟩
theorem sameL_paired {K : PySem.W.Frag} {H : Hp} {m : Mem} (r : RM K H m) : ∀ {xs ys : List D} {vs ws : List V}, SameL m xs ys → Reps K H xs vs → Reps K H ys ws → Paired (EqV K H 2) vs ws
  | [], [], _, _, _, h1, h2 => by rw [Reps.nil_iff.mp h1, Reps.nil_iff.mp h2]; exact .nil
  | x :: xs, y :: ys, _, _, ⟨⟨a, b, e1, e2, h⟩, t⟩, h1, h2 => by
    obtain ⟨v, vs, rfl, x1, x2⟩ := Reps.cons_iff.mp h1
    obtain ⟨w, ws, rfl, y1, y2⟩ := Reps.cons_iff.mp h2
    subst e1 e2
    refine .cons ?_ (sameL_paired r t x2 y2)
    obtain ⟨ks, ls, z1, z2, z3, z4⟩ := kvs_same r h
    exact .inr (.inr (.inr ⟨a, b, ks, ls, Rep.ref_iff.mp x1, Rep.ref_iff.mp y1, z1, z2, z3, fun p hp => ⟨p.2, (z4 p hp).1, .inl ⟨rfl, (z4 p hp).2⟩⟩⟩))
  | [], _ :: _, _, _, h, _, _ => h.elim
  | _ :: _, [], _, _, h, _, _ => h.elim
theorem mo_eqL {k : Nat} (hr : Room k X.A) : MOp X (compareOp .Eq) wEqL := mop_of (op_eqV (hu64 hr)) fun x y v w H m Q Qm hx hy r q k => by
  unfold wEqL refAt at q
  split at q
  · split at q
    · obtain ⟨xs, ys, h1, h2, h, q⟩ := q
      obtain ⟨vs, s1, r1⟩ := rd_lst r h1
      obtain ⟨ws, s2, r2⟩ := rd_lst r h2
      exact ⟨2, by omega, .inl ⟨_, _, vs, ws, Rep.ref_iff.mp hx, Rep.ref_iff.mp hy, s1, s2, sameL_paired r h r1 r2⟩, k _ _ _ _ q r Step.refl Rep.bl⟩
    · exact q.elim
  · exact q.elim
/-- a global name whose value is a datum -/
def GlT (K : PySem.W.Frag) (mg : Str → Option Value) (x : Str) (d : D) : Prop := ∃ v u, mg x = some u ∧ RelV v u ∧ ∀ H, Rep K H d v
theorem gl_tupS {K : PySem.W.Frag} {mg : Str → Option Value} {x : Str} {t : Addr} {zs : List Str} {o : Obj} {its : Array Value} {n : Nat} (hm : mg x = some (.ref t)) (l : K.lookup t = some o) (hc : o.cls = .type "tuple") (hd : o.data = .seq its n) (hz : its.size ≤ sizeLine)
    (hv : Vals (zs.map V.str) its.toList) (h : zs.length = 1 ∨ zs.length = 5) : GlT K mg x (.tup (zs.map .str)) :=
  ⟨.ref t, _, hm, rfl, fun H => Rep.tup_iff.mpr ⟨t, zs.map V.str, rfl, .inr ⟨by rw [List.length_map]; exact h, .inr ⟨o, its, n, l, hc, hd, hz, hv⟩⟩, by
    clear hv h
    induction zs with
    | nil => exact Reps.nil
    | cons z zs ih => exact Reps.cons Rep.str ih⟩⟩
theorem mx_gt {B : Bs} {x : Str} {pos : Pos} {d : D} (h : GlT X.K X.mg x d) (hg : Gl X x := by rfl) (hd : (x == ("__debug__" : Str)) = false := by decide) : MX X B (.Name x pos) (wC d) := by
  obtain ⟨v, u, h1, h2, h3⟩ := h
  exact mx_glob hg h1 h2 h3 hd
end
end Mm
namespace Mm
open PySem L2
section
variable {X : Cx} {B : Bs} {a b : Expr} {rest : List Expr} {pos : Pos} {pa pb : TEm}
/-! ### x is True, x is False, where x is None or one of the two -/
def isBl (x : D) (b : Bool) : Option Bool := match x with
  | .bl c => some (decide (c = b))
  | .non => some false
  | _ => none
def wIsB : R2m := fun x y m Q => match y with
  | .bl b => ∃ k, isBl x b = some k ∧ Q (.bl k) m
  | _ => False
def rIsB2 : R2 := fun x y H Q => ∃ b : Bool, y = .bl b ∧ ((∃ a : Bool, x = .bl a ∧ Q (.bl (decide (a = b))) H) ∨ (x = .non ∧ Q (.bl false) H))
theorem op_isB2 : OpR X (compareOp .Is) rIsB2 := by
  intro pins s σ H x y v u Q I rx ry h
  obtain ⟨b, rfl, h⟩ := h
  cases (show u = Value.bool b from ry)
  rcases h with ⟨a, rfl, q⟩ | ⟨rfl, q⟩
  · cases (show v = Value.bool a from rx)
    by_cases e : a = b
    · subst e
      exact wpAny_is_self rfl ⟨.bl true, H, I, rfl, by simpa using q⟩
    · exact wpAny_is_other rfl (fun z => e (Value.bool.inj z)) ⟨.bl false, H, I, rfl, by simpa [e] using q⟩
  · cases (show v = Value.none from rx)
    exact wpAny_is_other rfl (fun z => by cases z) ⟨.bl false, H, I, rfl, q⟩
theorem mo_isB : MOp X (compareOp .Is) wIsB := mop_of op_isB2 fun x y v w H m Q Qm hx hy r q k => by
  unfold wIsB at q
  split at q
  · obtain ⟨c, e, q⟩ := q
    refine ⟨_, Rep.bl_iff.mp hy, ?_⟩
    have fin := k _ _ _ _ q r Step.refl Rep.bl
    unfold isBl at e
    split at e
    · cases e
      exact .inl ⟨_, Rep.bl_iff.mp hx, fin⟩
    · cases e
      exact .inr ⟨Rep.non_iff.mp hx, fin⟩
    · cases e
  · exact q.elim
theorem i_isB {x : D} {b k : Bool} {m : Mem} {Q : KM} (e : isBl x b = some k) (h : Q (.bl k) m) : wIsB x (.bl b) m Q := ⟨k, e, h⟩
/-! ### x in a tuple of tuples -/
def InT (m : Mem) (x y : D) (k : Bool) : Prop := ∃ t ts, Vw m x t ∧ Vw m y (.tuple ts) ∧ t.canLay0 = true ∧ PyData.canLayAll0 ts = true ∧ min (PyData.depthAll ts) t.depth ≤ 64 ∧ k = ts.any fun z => PyData.eqv z t
def rInT (K : PySem.W.Frag) : R2 := fun x y H Q => ∃ d ds, Dp K H x d ∧ Dp K H y (.tuple ds) ∧ d.canLay0 = true ∧ PyData.canLayAll0 ds = true ∧ min (PyData.depthAll ds) d.depth ≤ 64 ∧ Q (.bl (ds.any fun z => PyData.eqv z d)) H
theorem op_inT (hu : X.A.units + 65 < cLine) : OpR X (compareOp .In) (rInT X.K) := by
  intro pins s σ H x y v u Q I rx ry h
  obtain ⟨d, ds, hd, he, sd, se, hm, q⟩ := h
  obtain ⟨as, r1⟩ := Dp.reads I d x v hd rx
  obtain ⟨bs, r2⟩ := Dp.reads I (.tuple ds) y u he ry
  exact SeqAt.in_tuple_reads r2 r1 se sd (by omega) ⟨.bl _, H, I, rfl, q⟩
def wInT : R2m := fun x y m Q => ∃ k, InT m x y k ∧ Q (.bl k) m
theorem mo_inT {k : Nat} (hr : Room k X.A) : MOp X (compareOp .In) wInT := mop_of (op_inT (hu65 hr)) fun x y v w H m Q Qm hx hy r q k => by
  obtain ⟨b, ⟨t, ts, h1, h2, s1, s2, hm, e⟩, q⟩ := q
  exact ⟨t, ts, h1.dp r _ _ _ hx, h2.dp r _ _ _ hy, s1, s2, hm, by rw [← e]; exact k _ _ _ _ q r Step.refl Rep.bl⟩
theorem i_inT {x y : D} {m : Mem} {Q : KM} {k : Bool} (e : InT m x y k) (h : Q (.bl k) m) : wInT x y m Q := ⟨k, e, h⟩
/-! ### x and y, where x is None, True or False -/
def truN (d : D) : Option Bool := match d with
  | .non => some false
  | .bl b => some b
  | _ => none
def wAndT (p q : TEm) : TEm := fun ρ m Q => p ρ m fun d m1 => ∃ k, truN d = some k ∧ if k = true then q ρ m1 Q else Q d m1
theorem truV_of {K : PySem.W.Frag} {H : Hp} {d : D} {v : V} {k : Bool} (x : Rep K H d v) (e : truN d = some k) : TruV K v H k := by
  unfold truN at e
  split at e
  · cases e; rw [Rep.non_iff.mp x]; exact rfl
  · cases e; rw [Rep.bl_iff.mp x]; exact rfl
  · cases e
theorem mx_andT (ha : MX X B a pa) (hb : MX X B (.BoolOp .And (b :: rest) pos) pb) : MX X B (.BoolOp .And (a :: b :: rest) pos) (wAndT pa pb) :=
  peImp (pe_andT ha hb) fun σ H Q ⟨ρ, m, Qm, A, q, k⟩ => by
    refine ⟨ρ, m, _, A, q, fun d m1 v H1 ⟨c, e, q1⟩ r1 t1 x1 => ?_⟩
    refine ⟨c, truV_of x1 e, ?_⟩
    cases c with
    | true => simp only [if_true] at q1 ⊢; exact ⟨ρ, m1, Qm, A.step r1 t1, q1, fun d m' v H' q2 r2 t2 => k d m' v H' q2 r2 (t1.trans t2)⟩
    | false => simp only [Bool.false_eq_true, if_false] at q1 ⊢; exact k _ _ _ _ q1 r1 t1 x1
end
end Mm
namespace Mm
open PySem L2
open PySem.SeqAt PySem.MeetsSeq PySem.MeetsSeq2 PySem.MeetsSeq3 PySem.SeqRoads2 PySem.AutoSeq1
/-! ### != of two lists that are alike, item by item -/
section
variable {prog : Program} {w : World}
theorem alike_walk (l b : Addr) (xs ys : Array Value) (n n2 : Nat) (dd dd2 : Option Addr) (sl sl2 : Array (Option Value)) (hsz : xs.size = ys.size) (k : Nat) :
    ∀ i : Nat, xs.size - i = k → MeetsIn prog w (Builtin.«list.__eq__.loop» ⟨[.ref l, .ref b, rawInt i, rawInt 3], []⟩)
      (fun A R s => s.heap.get? l = some { cls := .type "list", dict := dd, data := .seq xs n, slots := sl } ∧ s.heap.get? b = some { cls := .type "list", dict := dd2, data := .seq ys n2, slots := sl2 } ∧
        (∀ j (h1 : j < xs.size) (h2 : j < ys.size), EqP prog w A.in1 s xs[j] ys[j] true) ∧ R (.ok (.ret (.bool false))) s) := by
  induction k with
  | zero =>
    intro i hk A R s h
    obtain ⟨hp, g, d, tk, os⟩ := s
    obtain ⟨hl, hb, -, h⟩ := h
    wp_walk using wpAny_loadPart' hl, wpAny_loadPart' hb
    have e1 : xs[((i : Nat) : Int).toNat]? = none := by simp; omega
    have e2 : ys[((i : Nat) : Int).toNat]? = none := by simp; omega
    rw [e1, e2]
    wp_walk using wpAny_loadPart' hl, wpAny_loadPart' hb
    show R (.ok (.ret (.bool (xs.size != ys.size)))) _
    rw [show (xs.size != ys.size) = false by simp [hsz]]
    exact h
  | succ k ih =>
    intro i hk A R s h
    obtain ⟨hp, g, d, tk, os⟩ := s
    obtain ⟨hl, hb, he, h⟩ := h
    wp_walk using wpAny_loadPart' hl, wpAny_loadPart' hb
    have l1 : i < xs.size := by omega
    have l2 : i < ys.size := by omega
    have e1 : xs[((i : Nat) : Int).toNat]? = some xs[i] := by simp [l1]
    have e2 : ys[((i : Nat) : Int).toNat]? = some ys[i] := by simp [l2]
    rw [e1, e2]
    refine wpAny_bind (he i l1 l2 _ _ ?_)
    wp_walk
    rw [show ((i : Int) + 1) = ((i + 1 : Nat) : Int) by push_cast; rfl]
    exact ⟨plainId_quiet plain_eq_loop _, codeAny_builtin entry_eq_loop (by
      rw [Around.under_plainId plain_eq_loop _]
      exact ih (i + 1) (by omega) A R _ ⟨hl, hb, he, h⟩)⟩
theorem alike_ne (l b : Addr) (xs ys : Array Value) (n n2 : Nat) (dd dd2 : Option Addr) (sl sl2 : Array (Option Value)) (hsz : xs.size = ys.size) :
    MeetsIn prog w (Builtin.«list.__ne__» ⟨[.ref l, .ref b], []⟩)
      (fun A R s => s.heap.get? l = some { cls := .type "list", dict := dd, data := .seq xs n, slots := sl } ∧ s.heap.get? b = some { cls := .type "list", dict := dd2, data := .seq ys n2, slots := sl2 } ∧
        (∀ j (h1 : j < xs.size) (h2 : j < ys.size), EqP prog w A.in1 s xs[j] ys[j] true) ∧ R (.ok (.ret (.bool false))) s) := by
  intro A R s h
  obtain ⟨hp, g, d, tk, os⟩ := s
  obtain ⟨hl, hb, he, h⟩ := h
  have f3 := AutoSeq1.sub_list_list
  have hne : ¬ (xs.size != ys.size) = true := by simp [hsz]
  wp_walk using wpAny_loadPart' hl, wpAny_loadPart' hb
  exact ⟨plainId_quiet plain_eq_loop _, codeAny_builtin entry_eq_loop (by
    rw [Around.under_plainId plain_eq_loop _]
    exact alike_walk l b xs ys n n2 dd dd2 sl sl2 hsz _ 0 rfl A R _ ⟨hl, hb, he, h⟩)⟩
theorem alike_rc {A : Around} {s : Shared} {l b : Addr} {xs ys : Array Value} (hl : s.heap.IsList l xs) (hb : s.heap.IsList b ys) (hsz : xs.size = ys.size) (hu : A.units < cLine)
    (he : ∀ j (h1 : j < xs.size) (h2 : j < ys.size), EqP prog w A.in1 s xs[j] ys[j] true) (E Q : Value → Shared → Prop) (h : Q (.bool false) s) : wpAny (model prog w) A (richCompare .NotEq (.ref l) (.ref b)) Q E s := by
  obtain ⟨⟨c1, dd, data, sl⟩, ho, hc, n, hd⟩ := id hl
  obtain ⟨⟨c2, dd2, data2, sl2⟩, ho2, hc2, n2, hd2⟩ := id hb
  simp only at hc hd hc2 hd2
  subst hc hd hc2 hd2
  have ta : s.TypeIs (.ref l) "list" := ⟨_, ho, rfl⟩
  have tb : s.TypeIs (.ref b) "list" := ⟨_, ho2, rfl⟩
  exact wpAny_richCompare_same_room (op := .NotEq) ta tb F.slot_list_ne (call_meetsIn F.slot_list_ne ta F.entry_list_ne (F.args_list_ne_2 _ _) (alike_ne l b xs ys n n2 dd dd2 sl sl2 hsz)
    ⟨ho, ho2, he, show Value.bool false ≠ Value.notImplemented ∧ Q (.bool false) s from ⟨(fun x => nomatch x), h⟩⟩) hu
end
section
variable {X : Cx}
def rNeV (K : PySem.W.Frag) : R2 := fun x y H Q => ∃ n a b xs ys, n ≤ 60 ∧ x = .ref a ∧ y = .ref b ∧ SqL K H a xs ∧ SqL K H b ys ∧ Paired (EqV K H n) xs ys ∧ Q (.bl false) H
theorem op_neV (hu : X.A.units + 64 < cLine) : OpR X (compareOp .NotEq) (rNeV X.K) := by
  intro pins s σ H x y v u Q I rx ry h
  obtain ⟨n, a, b, xs, ys, hn, rfl, rfl, ha, hb, hp, q⟩ := h
  cases (show v = Value.ref a from rx)
  cases (show u = Value.ref b from ry)
  obtain ⟨us, r1, p1, _⟩ := I.list ha
  obtain ⟨ws, r2, p2, _⟩ := I.list hb
  have hsz : us.toArray.size = ws.toArray.size := by
    rw [List.size_toArray, List.size_toArray, ← r1.length, ← r2.length]
    exact Paired.length hp
  refine alike_rc p1.isList p2.isList hsz (by omega) (fun j h1 h2 => ?_) _ _ ⟨.bl false, H, I, rfl, q⟩
  have k := items_run (eqV_run I n X.A.in1 (by show X.A.units + 1 + n < cLine; omega)) hp r1 r2 j (by simpa using h1) (by simpa using h2)
  simpa using k
def wNeL : R2m := fun x y m Q => refAt x fun a => refAt y fun b => ∃ xs ys, rdM m a = some (.lst xs) ∧ rdM m b = some (.lst ys) ∧ SameL m xs ys ∧ Q (.bl false) m
theorem i_neL {a b : Addr} {m : Mem} {Q : KM} {xs ys : List D} (h1 : rdM m a = some (.lst xs)) (h2 : rdM m b = some (.lst ys)) (h : SameL m xs ys) (q : Q (.bl false) m) : wNeL (.ref a) (.ref b) m Q := ⟨xs, ys, h1, h2, h, q⟩
theorem mo_neL {k : Nat} (hr : Room k X.A) : MOp X (compareOp .NotEq) wNeL := mop_of (op_neV (hu64 hr)) fun x y v w H m Q Qm hx hy r q k => by
  unfold wNeL refAt at q
  split at q
  · split at q
    · obtain ⟨xs, ys, h1, h2, h, q⟩ := q
      obtain ⟨vs, s1, r1⟩ := rd_lst r h1
      obtain ⟨ws, s2, r2⟩ := rd_lst r h2
      exact ⟨2, _, _, vs, ws, by omega, Rep.ref_iff.mp hx, Rep.ref_iff.mp hy, s1, s2, sameL_paired r h r1 r2, k _ _ _ _ q r Step.refl Rep.bl⟩
    · exact q.elim
  · exact q.elim
end
end Mm
namespace Mm
open PySem L2
section
variable {X : Cx} {B : Bs} {tg iter : Expr} {p : TEm}
/-! ### over the signs of a text -/
def signsD (x : Str) : List D := x.cps.toList.map fun c => .str ⟨#[c]⟩
def iStrM (p : TEm) : TIm := fun ρ m R => p ρ m fun d m1 => ∃ x, d = .str x ∧ R (signsD x) (fun _ => True) m1
theorem mi_str (h : MX X B iter p) : MI X B tg iter (iStrM p) := piImp (pi_str h) fun σ H R ⟨ρ, m, Rm, A, q, k⟩ => by
  refine ⟨ρ, m, _, A, q, fun d m1 v H1 q1 r1 t1 x1 => ?_⟩
  obtain ⟨x, rfl, q1⟩ := q1
  have ev : v = .str x := Rep.str_iff.mp x1
  refine ⟨x, ev, k _ _ _ _ (Its x) q1 r1 t1 fun i m' H' s r c => ?_⟩
  refine ⟨fun d e => ?_, fun e => ?_⟩
  · unfold signsD at e
    rw [List.getElem?_map] at e
    obtain ⟨c, ec, rfl⟩ := Option.map_eq_some_iff.mp e
    rw [Array.getElem?_toList] at ec
    have hlt : i < x.cps.size := (Array.getElem?_eq_some_iff.mp ec).1
    refine ⟨hlt, fun y H2 z => ?_⟩
    obtain ⟨rfl, c', ec', rfl⟩ := z
    rw [ec] at ec'
    cases ec'
    exact ⟨r, Step.refl, Rep.str⟩
  · unfold signsD at e
    rw [List.length_map, Array.length_toList] at e
    exact e
end
end Mm
/-! defs that may raise, what is caught -/
namespace Mm
open PySem L2
open PyProof.Rows (envOfC)
section
variable {P : Program} {w : World} {K : PySem.W.Frag} {mg : Str → Option Value} {base : Heap}
/-- as fn_m, for a def that may raise; E' is the way out that the frame knows, E the one that is promised -/
theorem fn_mX {k : Nat} {x qual : Str} {st : Stmt} {f : Addr} {fd : FuncData} {N ps : List Str} {sp : SpM} (F : Fun K x qual st f fd) (S : FnScope N ps (defScope st)) (len : ∀ ds m Q E, sp ds m Q E → ds.length = ps.length)
    (hbody : ∀ (cdv : Value) (A : Around) (outer : List Env) (s : Shared) (H : Hp) (ds : List D) (m : Mem) (Q : KM) (E : XM) (E' : XK), Room k (A.deeper (envOfC qual (defScope st) s.heap.objs.size f cdv)) → sp ds m Q E →
      (∀ C m' H', E C m' → RM K H' m' → Step m H m' H' → E' (.ref C) none H') →
      ∃ p, MSs (cxOf (L2.CX P w) P w K mg base N qual (defScope st) f cdv A outer s H E') (stepB m H) (defBody st) p ∧ p { nx := fun _ m' => RtM Q .non m', rt := RtM Q } (startM N ds) m) : FnM P w K mg base (L2.CX P w) (k + 1) f fd ps sp := by
  refine F.okX S (fun vs H Q E ⟨ds, m, Qm, Em, x, r, q, _⟩ => by rw [← x.length]; exact len _ _ _ _ q) fun cdv A outer s H vs Q E hr ⟨ds, m, Qm, Em, x, r, q, k1, k2⟩ => ?_
  obtain ⟨p, hp, go⟩ := hbody cdv A outer s H ds m Qm Em E hr q fun C m' H' e r' t' => k2 C m' H' e r' t'
  refine ⟨_, hp, startM N ds, m, _, ⟨ss_start N x, r, Step.refl⟩, go, ?_, ?_, ?_, ?_⟩
  · intro ρ' m' σ' H' ⟨m0, sb, q'⟩ r' t' s'
    exact k1 _ _ _ _ q' (r'.sub sb) (t'.sub sb) Rep.non
  · intro d m' v H' ⟨m0, sb, q'⟩ r' t' x'
    exact k1 _ _ _ _ q' (r'.sub sb) (t'.sub sb) x'
  · intro ρ' m' σ' H' z; exact z.elim
  · intro ρ' m' σ' H' z; exact z.elim
end
section
variable {X : Cx} {B : Bs} {E' : XK} {Em : XM} {C : Addr}
/-- what a callee lets out is let out -/
theorem passM (tk : Takes X (fun cls d _ H => E' cls d H)) (hw : ∀ C m H, Em C m → RM X.K H m → B.P m H → E' (.ref C) none H) : Passes (L2.CX X.prog X.w) X (uX X.K B Em) :=
  passes_call tk fun cls d σ H ⟨C, m, e, e2, em, r, b⟩ => by subst e e2; exact hw C m H em r b
theorem passX0 {X : Cx} {B : Bs} : Passes (L2.CX X.prog X.w) X (uX X.K B noX) := fun _ _ _ _ _ _ _ h => by
  obtain ⟨_, _, _, _, _, _, _, _, _, _, _, _, z⟩ := h
  obtain ⟨_, _, _, _, z, _⟩ := z
  exact z.elim
def wRaise (Em : XM) (C : Addr) : TSm := fun _ _ m => Em C m
/-- raise X('..'), X at C -/
theorem ms_raise {e : Expr} {pos : Pos} (hc : X.calm = true) (tk : Takes X (fun cls d _ H => E' cls d H)) (hw : ∀ C m H, Em C m → RM X.K H m → B.P m H → E' (.ref C) none H) (he : PMk X e (fun _ H Q => Q (.ref C) none H)) :
    MS X B (.Raise (some e) none pos) (wRaise Em C) := psImp (ps_raise hc tk he) fun D σ H ⟨ρ, m, E, A, q, _⟩ => hw C m H q A.r A.b

/-! ### try: f(..) except X as n -/
abbrev XS := Addr → StM → Mem → Prop
def wCallS (sp : SpM) (Es : XS) (t : TAm) : TEm := fun ρ m Q => t ρ m fun ds m1 => sp ds m1 Q fun C m2 => Es C ρ m2
variable {k : Nat} {f : Addr} {fd : FuncData} {ps : List Str} {sp : SpM} {Es : XS} {x n : Str} {e : Expr} {es : List Expr} {la : TAm} {pos p pos' np : Pos} {W : WX}
theorem mx_callS (F : FnM X.prog X.w X.K X.mg X.base (L2.CX X.prog X.w) k f fd ps sp) (hr : Room k X.A) (hm : X.mg x = some (.ref f)) (hk : PySem.W.keepIn X.K (.ref f) = true) (hb : Binds X.K fd ps []) (tk : Takes X W)
    (hw : ∀ C ρ m σ H, Es C ρ m → At X.K B σ H ρ m → W (.ref C) none σ H)
    (ha : MA X B (e :: es) la) (hg : Gl X x := by rfl) (hdb : (x == ("__debug__" : Str)) = false := by decide) (he : starEach (e :: es) X.env = (false, eval e X.env) :: starEach es X.env := by rfl) (hpl : (backTo pos (starEach es X.env)).any (·.1) = false := by rfl) :
    MX X B (.Call (.Name x p) (e :: es) [] pos) (wCallS sp Es la) := peImp (pe_callS F hr hg hm hk hb (fun σ => passAt tk σ) ha hdb he hpl) fun σ H Q ⟨ρ, m, Qm, A, q, k⟩ => by
  refine ⟨ρ, m, _, A, q, fun ds m1 vs H1 q1 r1 t1 x1 => ?_⟩
  exact ⟨ds, m1, Qm, _, x1, r1, q1, fun d m' v H' q2 r2 t2 x2 => k d m' v H' q2 r2 (t1.trans t2) x2, fun C m' H' q2 r2 t2 => hw C ρ m' σ H' q2 (A.step r2 (t1.trans t2))⟩
def wTryAs (C : Addr) (i : Nat) (tb : XS → TSm) (ts : Addr → TSm) : TSm := fun E ρ m =>
  tb (fun C' ρ' m' => C' = C ∧ ∀ a, m' a = none → ts a { nx := fun ρ2 m2 => E.nx (ρ2.set i none) m2, rt := E.rt, bk := fun ρ2 m2 => E.bk (ρ2.set i none) m2, ct := fun ρ2 m2 => E.ct (ρ2.set i none) m2 } (ρ'.set i (some (.ref a))) m') E ρ m
theorem ms_try_as {c : Value} {i : Nat} {body suite : List Stmt} {b₀ : Stmt} {tb : XS → TSm} {ts : Addr → TSm} (hs : X.stack = X.env :: X.outer) (hf : X.env.frame = some X.env.locals) (hN : X.N.Nodup) (hi : X.N[i]? = some n) (hln : X.env.kindOf n = some .local) (hc : Names X x c)
    (hx : PySem.W.exmOne X.K (.ref C) c = some true)
    (hb : ∀ (B' : Bs) (Es : XS) (W : WX) (pn : List (Addr × Obj)) (xe : Value → Shared → Prop), Takes (X.tr pn xe) W → (∀ C ρ m σ H, Es C ρ m → At X.K B' σ H ρ m → W (.ref C) none σ H) → MSs (X.tr pn xe) B' body (tb Es))
    (hsu : ∀ (B' : Bs) (a : Addr) (oe : Obj) (pn : List (Addr × Obj)), Zc (.ref C) none oe → (∃ vs, oe.data = .fields vs) → MSs (X.suite a ((a, oe) :: pn)) B' (b₀ :: suite) (ts a)) :
    MS X B (.Try body [.ExceptHandler (some (.Name x np)) (some n) (b₀ :: suite) pos'] [] [] pos) (wTryAs C i tb ts) :=
  psImp (ps_try_as (i := i) (tb := fun W D σ H => ∃ (B' : Bs) (Es : XS), (∀ C ρ m σ H, Es C ρ m → At X.K B' σ H ρ m → W (.ref C) none σ H) ∧ uS X.K B' (tb Es) D σ H)
      (ts := fun a cls d D σ H => cls = .ref C ∧ d = none ∧ ∃ B' : Bs, uS X.K B' (ts a) D σ H) hs hf hN hi hln hc takes0
      (fun W pn xe tk _ => ⟨fun pins s σ H D I ⟨B', Es, hw, h⟩ => (hb B' Es W pn xe tk hw).run pins s σ H D I h⟩)
      (fun a oe cls d pn hz hf => ⟨fun pins s σ H D I ⟨e1, e2, B', h⟩ => by subst e1 e2; exact (hsu B' a oe pn hz hf).run pins s σ H D I h⟩))
    fun D σ H ⟨ρ, m, E, A, q, n1, n2, n3, n4⟩ => by
      refine ⟨⟨fun m' H' => B.P m' H' ∧ Step m H m' H', fun _ _ _ _ a b => ⟨B.cl _ _ _ _ a.1 b, a.2.trans b⟩⟩, _, ?_, ρ, m, E, ⟨A.s, A.r, A.b, Step.refl⟩, q, n1, n2, n3, n4⟩
      intro C' ρ' m' σ' H' ⟨e1, hts⟩ A'
      subst e1
      refine ⟨true, hx, fun _ a ha => ⟨rfl, rfl, B, ρ'.set i (some (.ref a)), m', _, ⟨Ss.set Rep.ref i A'.s, A'.r, A'.b.1⟩, hts a (A'.r.out ha), ?_, ?_, ?_, ?_⟩, fun z => nomatch z⟩
      · intro ρ2 m2 σ2 H2 z r2 t2 s2
        exact n1 _ _ _ _ z r2 (A'.b.2.trans t2) (Ss.setN i s2)
      · intro d m2 v H2 z r2 t2 x2
        exact n2 _ _ _ _ z r2 (A'.b.2.trans t2) x2
      · intro ρ2 m2 σ2 H2 z r2 t2 s2
        exact n3 _ _ _ _ z r2 (A'.b.2.trans t2) (Ss.setN i s2)
      · intro ρ2 m2 σ2 H2 z r2 t2 s2
        exact n4 _ _ _ _ z r2 (A'.b.2.trans t2) (Ss.setN i s2)
/-- isinstance(e, X), e what the suite holds, of the class D at a -/
def wIsE (K : PySem.W.Frag) (C a : Addr) : RLm := fun ds m Q => match ds with
  | [.ref a', .ref C'] => a' = a ∧ ∃ b, PySem.W.kitOne K (.ref C) (.ref C') = some b ∧ Q (.bl b) m
  | [.ref a', .ty T] => a' = a ∧ ∃ b, PySem.W.kitOne K (.ref C) (.type T) = some b ∧ Q (.bl b) m
  | _ => False
theorem mc_isE {a : Addr} {oe : Obj} {pn : List (Addr × Obj)} (T : ExcC X.K C) (hz : Zc (.ref C) none oe) (hf : ∃ vs, oe.data = .fields vs) : MCall (X.suite a ((a, oe) :: pn)) (.builtin "isinstance") (wIsE X.K C a) :=
  mcall_of (call_isE T hz hf) fun ds vs H m Q Qm hx r q k => by
    unfold wIsE at q; split at q
    · obtain ⟨v, w, e, x, y⟩ := reps2 hx
      obtain ⟨rfl, b, hk, q⟩ := q
      rw [Rep.ref_iff.mp x, Rep.ref_iff.mp y] at e
      exact ⟨_, _, b, e, fun u r => by cases r; rfl, hk, k _ _ _ _ q r Step.refl Rep.bl⟩
    · obtain ⟨v, w, e, x, y⟩ := reps2 hx
      obtain ⟨rfl, b, hk, q⟩ := q
      rw [Rep.ref_iff.mp x, Rep.ty_iff.mp y] at e
      exact ⟨_, _, b, e, fun u r => by cases r; rfl, hk, k _ _ _ _ q r Step.refl Rep.bl⟩
    · exact q.elim
end
/-- what a class of errors must say -/
structure XcF (K : PySem.W.Frag) (mg : Str → Option Value) (x : Str) (C : Addr) : Prop where
  g : mg x = some (.ref C)
  q : PySem.W.excIn K C [.type "ValueError", .type "Exception", .type "BaseException", .type "object"] "ValueError.__new__" = true
  k : PySem.W.keepIn K (.ref C) = true
  t : PySem.W.typeIn K (.ref C) = some (.type "type")
  c : ExcC K C
theorem mx_exc {X : Cx} {B : Bs} {x : Str} {pos : Pos} {C : Addr} (F : XcF X.K X.mg x C) (hg : Gl X x := by rfl) (hd : (x == ("__debug__" : Str)) = false := by decide) : MX X B (.Name x pos) (wC (.ref C)) := mx_glob (v := .ref C) hg F.g rfl (fun _ => Rep.ref) hd
theorem XcF.raises {X : Cx} {x : Str} {C : Addr} (F : XcF X.K X.mg x C) : Raises X (.ref C) := raises_own F.c.hs F.t
theorem XcF.exm {K : PySem.W.Frag} {mg : Str → Option Value} {x : Str} {C D : Addr} {b : Bool} (F : XcF K mg x C) (h : PySem.W.subIn K (.ref D) (.ref C) = some b) : PySem.W.exmOne K (.ref D) (.ref C) = some b := PySem.W.exm_ref F.c.hs F.c.hd F.t h
theorem XcF.kit {K : PySem.W.Frag} {mg : Str → Option Value} {x : Str} {C D : Addr} {b : Bool} (F : XcF K mg x C) (h : PySem.W.subIn K (.ref D) (.ref C) = some b) (h0 : PySem.W.subIn K (.ref C) (.ref C) = some true) : PySem.W.kitOne K (.ref D) (.ref C) = some b := by
  unfold PySem.W.kitOne
  split
  · rename_i e
    have e : D = C := Value.ref.inj (beq_iff_eq.mp e)
    subst e
    rw [h0] at h; exact h
  · obtain ⟨cd, hc, _⟩ := PySem.W.any_some F.c.hd
    have e2 : ((PySem.W.clsIn K C).isSome && PySem.W.typeIn K (.ref C) == some (.type "type")) = true := by rw [hc, F.t] <;> rfl
    show (if ((PySem.W.clsIn K C).isSome && PySem.W.typeIn K (.ref C) == some (.type "type")) = true then PySem.W.subIn K (.ref D) (.ref C) else none) = some b
    rw [if_pos e2]; exact h
theorem kit_val {K : PySem.W.Frag} {D : Addr} (h : PySem.W.subIn K (.ref D) (.type "ValueError") = some true) : PySem.W.kitOne K (.ref D) (.type "ValueError") = some true := by
  unfold PySem.W.kitOne
  split
  · rfl
  · show (if PySem.W.kitMeta "ValueError" = true then PySem.W.subIn K (.ref D) (.type "ValueError") else none) = some true
    rw [if_pos (by decide +kernel)]; exact h
end Mm
/-! objects: fields, methods, the making of one -/
namespace Mm
open PySem L2
open PyProof.Rows (envOfC)
def putFD (f : Str) (v : D) : List (Str × D) → List (Str × D)
  | [] => [(f, v)]
  | (g, x) :: r => if g = f then (g, v) :: r else (g, x) :: putFD f v r
section
variable {K : PySem.W.Frag} {H : Hp} {f : Str}
theorem KVs.putF {d : D} {v : V} (hd : Rep K H d v) : ∀ {a : List (Str × D)} {b : List (Str × V)}, KVs K H a b → KVs K H (putFD f d a) (L2.putF f v b)
  | _, _, .nil => .cons ⟨rfl, hd⟩ .nil
  | _, _, .cons (a := p) (b := q) h r => by
    obtain ⟨p1, p2⟩ := p
    obtain ⟨q1, q2⟩ := q
    obtain ⟨e, h2⟩ := h
    dsimp only at e h2
    subst e
    unfold putFD L2.putF
    by_cases c : p1 = f
    · rw [if_pos c, if_pos c]; exact .cons ⟨rfl, hd⟩ r
    · rw [if_neg c, if_neg c]; exact .cons ⟨rfl, h2⟩ (KVs.putF hd r)
theorem KVs.look : ∀ {a : List (Str × D)} {b : List (Str × V)}, KVs K H a b → (∀ d, a.lookup f = some d → ∃ v, b.lookup f = some v ∧ Rep K H d v) ∧ (a.lookup f = none → b.lookup f = none)
  | _, _, .nil => ⟨fun d e => (nomatch e), fun _ => rfl⟩
  | _, _, .cons (a := p) (b := q) h r => by
    obtain ⟨p1, p2⟩ := p
    obtain ⟨q1, q2⟩ := q
    obtain ⟨e, h2⟩ := h
    dsimp only at e h2
    subst e
    obtain ⟨i1, i2⟩ := KVs.look r
    by_cases c : f = p1
    · have hb : (f == p1) = true := beq_iff_eq.mpr c
      simp only [List.lookup, hb]
      exact ⟨fun d e => by cases e; exact ⟨q2, rfl, h2⟩, fun e => (nomatch e)⟩
    · have hb : (f == p1) = false := beq_eq_false_iff_ne.mpr c
      simp only [List.lookup, hb]
      exact ⟨i1, i2⟩
end
/-- what a class must say: its own, and that it has none of the names of the attributes -/
structure ObK (K : PySem.W.Frag) (C : Addr) (L : List Str) : Prop where
  cl : Cls K C
  na : ∀ f ∈ L, NoAttr K C f
theorem na_nil {K : PySem.W.Frag} {C : Addr} : ∀ f ∈ ([] : List Str), NoAttr K C f := fun _ h => (nomatch h)
theorem na_cons {K : PySem.W.Frag} {C : Addr} {g : Str} {L : List Str} (h : NoAttr K C g) (r : ∀ f ∈ L, NoAttr K C f) : ∀ f ∈ g :: L, NoAttr K C f := fun f hf => by
  rcases List.mem_cons.mp hf with rfl | hf
  · exact h
  · exact r f hf
/-- a method as it stands -/
structure Dm (K : PySem.W.Frag) (C : Addr) (x : Str) (f : Addr) (fd : FuncData) (ps : List Str) : Prop where
  c : Cls K C
  b : Binds K fd ps []
  m : Meth K C x f
/-- a class as it is called -/
structure Dc (K : PySem.W.Frag) (mg : Str → Option Value) (x : Str) (C f : Addr) (fd : FuncData) (ps : List Str) : Prop where
  g : mg x = some (.ref C)
  b : Binds K fd ps []
  k : Mk K C f
section
variable {X : Cx} {B : Bs} {o e value : Expr} {es : List Expr} {f : Str} {pos pos' p apos : Pos} {pa pv : TEm} {la : TAm}
def wFld (K : PySem.W.Frag) (f : Str) (p : TEm) : TEm := fun ρ m Q => p ρ m fun x m1 => refAt x fun a => ∃ C fs L d, m1 a = some (.ins C fs) ∧ ObK K C L ∧ f ∈ L ∧ fs.lookup f = some d ∧ Q d m1
theorem mx_fld (h : MX X B o pa) (hb : attributeBase o f X.env (eval o X.env) = eval o X.env) : MX X B (.Attribute o f pos) (wFld X.K f pa) :=
  peImp (pe_fld h hb) fun σ H Q ⟨ρ, m, Qm, A, q, k⟩ => by
    refine ⟨ρ, m, _, A, q, fun x m1 v H1 q1 r1 t1 x1 => ?_⟩
    unfold refAt at q1
    split at q1
    · obtain ⟨C, fs, L, d, e, ok, hf, l, q1⟩ := q1
      obtain ⟨u, h1, dx, xs, rfl, kv⟩ := r1 _ _ e
      obtain ⟨w, l2, rw'⟩ := kv.look.1 d l
      exact ⟨_, C, dx, xs, w, Rep.ref_iff.mp x1, h1, ok.cl, ok.na f hf, l2, k _ _ _ _ q1 r1 t1 rw'⟩
    · exact q1.elim
def wSetF (K : PySem.W.Frag) (f : Str) (pa pv : TEm) : TSm := fun E ρ m => pv ρ m fun y m1 => pa ρ m1 fun x m2 => refAt x fun a => ∃ C fs L, m2 a = some (.ins C fs) ∧ ObK K C L ∧ f ∈ L ∧ fs.length < 1000 ∧ E.nx ρ (mput m2 a (.ins C (putFD f y fs)))
theorem ms_fld (ha : MX X B o pa) (hv : MX X B value pv) (hs : swapsWith value (some (.Attribute o f pos')) pos.line X.env = pure false) : MS X B (.Assign [.Attribute o f pos'] value pos) (wSetF X.K f pa pv) :=
  psImp (ps_fld ha hv hs) fun D σ H ⟨ρ, m, E, A, q, n, _⟩ => by
    refine ⟨ρ, m, _, A, q, fun y m1 v H1 q1 r1 t1 y1 => ?_⟩
    refine ⟨ρ, m1, _, A.step r1 t1, q1, fun x m2 w H2 q2 r2 t2 x2 => ?_⟩
    unfold refAt at q2
    split at q2
    · obtain ⟨C, fs, L, e, ok, hf, hl, q2⟩ := q2
      obtain ⟨u, h1, dx, xs, rfl, kv⟩ := r2 _ _ e
      have y2 := y1.stay (t2.tups r1)
      have r3 := r2.put (o := .ins C (putFD f y fs)) (u := .ins C dx (L2.putF f v xs)) e trivial ⟨dx, _, rfl, kv.putF y2⟩
      have t3 : Step m2 H2 (mput m2 _ (.ins C (putFD f y fs))) (upd H2 _ (.ins C dx (L2.putF f v xs))) := Step.put r2 e trivial
      have t := t1.trans (t2.trans t3)
      exact ⟨_, C, dx, xs, Rep.ref_iff.mp x2, h1, ok.cl, ok.na f hf, by rw [← kv.length]; exact hl, n _ _ _ _ q2 r3 t (A.step r3 t).s⟩
    · exact q2.elim
variable {CX : CXT} {k : Nat} {g C : Addr} {fd : FuncData} {ps : List Str} {sp : SpM} {Em : XM} {x n : Str}
/-- o.n(..), o of the class at C -/
def wMeth (C : Addr) (n : Str) (sp : SpM) (Em : XM) (p : TEm) (t : TAm) : TEm := fun ρ m Q => p ρ m fun x m1 => refAt x fun a => ∃ fs, m1 a = some (.ins C fs) ∧ fs.lookup n = none ∧ t ρ m1 fun ds m2 => sp (.ref a :: ds) m2 Q Em
theorem meth_go {K : PySem.W.Frag} {σ : St} {H : Hp} {Q : VK} (h : uE K B (wMeth C n sp Em pa la) σ H Q) : tMeth C n (liftSp K sp) [] (uX K B Em) (uE K B pa) (uA K B la) σ H Q := by
  obtain ⟨ρ, m, Qm, A, q, k⟩ := h
  refine ⟨ρ, m, _, A, q, fun x m1 v H1 q1 r1 t1 x1 => ?_⟩
  unfold refAt at q1
  split at q1
  · obtain ⟨fs, e, l, q1⟩ := q1
    obtain ⟨u, h1, dx, xs, rfl, kv⟩ := r1 _ _ e
    refine ⟨_, dx, xs, Rep.ref_iff.mp x1, h1, kv.look.2 l, ρ, m1, _, A.step r1 t1, q1, fun ds m2 vs H2 q2 r2 t2 x2 => ?_⟩
    show liftSp K sp (v :: (vs ++ [])) H2 Q (uX K B Em)
    rw [List.append_nil]
    have t12 := t1.trans t2
    exact ⟨_, m2, Qm, Em, Reps.cons (x1.stay (t2.tups r1)) x2, r2, q2, fun d m' v H' q3 r3 t3 x3 => k d m' v H' q3 r3 (t12.trans t3) x3, fun C m' H' q3 r3 t3 => ⟨C, m', rfl, rfl, q3, r3, B.cl _ _ _ _ A.b (t12.trans t3)⟩⟩
  · exact q1.elim
theorem mx_meth {pl : Sem Bool} (he : MX X B o pa) (c : Cls X.K C) (hm : Meth X.K C n g) (F : FnM X.prog X.w X.K X.mg X.base CX k g fd ps sp) (hr : Room k X.A) (hb : Binds X.K fd ps []) (hx : Passes CX X (uX X.K B Em)) (ha : MA X B (e :: es) la)
    (hst : starEach (e :: es) X.env = (false, eval e X.env) :: starEach es X.env := by rfl) (hpl : (backTo pos (starEach es X.env)).any (·.1) = false := by rfl)
    (ht : eval (.Call (.Attribute o n apos) (e :: es) [] pos) X.env = (do
      let ov ← eval o X.env
      standAt apos.atName
      let (f, first) ← holding [ov] (getMethod ov n pl)
      callWith pos f first (backTo pos (starEach (e :: es) X.env)) (backToKw pos (keywordEach [] X.env))) := by rfl) :
    MX X B (.Call (.Attribute o n apos) (e :: es) [] pos) (wMeth C n sp Em pa la) := peImp (pe_meth he c hm F hr hb .nil hx ha hst hpl ht) fun σ H Q h => meth_go h
theorem mx_meth0 {pl : Sem Bool} (he : MX X B o pa) (c : Cls X.K C) (hm : Meth X.K C n g) (F : FnM X.prog X.w X.K X.mg X.base CX k g fd ps sp) (hr : Room k X.A) (hb : Binds X.K fd ps []) (hx : Passes CX X (uX X.K B Em))
    (ht : eval (.Call (.Attribute o n apos) [] [] pos) X.env = (do
      let ov ← eval o X.env
      standAt apos.atName
      let (f, first) ← holding [ov] (getMethod ov n pl)
      callWith pos f first (backTo pos (starEach [] X.env)) (backToKw pos (keywordEach [] X.env))) := by rfl) :
    MX X B (.Call (.Attribute o n apos) [] [] pos) (wMeth C n sp Em pa wNil) := peImp (pe_meth0 (ta := uE X.K B pa) he c hm F hr hb .nil hx ht) fun σ H Q h => by
  obtain ⟨ρ, m, Qm, A, q, k⟩ := h
  refine ⟨ρ, m, _, A, q, fun x m1 v H1 q1 r1 t1 x1 => ?_⟩
  unfold refAt at q1
  split at q1
  · obtain ⟨fs, e, l, q1⟩ := q1
    obtain ⟨u, h1, dx, xs, rfl, kv⟩ := r1 _ _ e
    refine ⟨_, dx, xs, Rep.ref_iff.mp x1, h1, kv.look.2 l, ?_⟩
    exact ⟨_, m1, Qm, Em, Reps.cons x1 Reps.nil, r1, q1, fun d m' v H' q3 r3 t3 x3 => k d m' v H' q3 r3 (t1.trans t3) x3, fun C m' H' q3 r3 t3 => ⟨C, m', rfl, rfl, q3, r3, B.cl _ _ _ _ A.b (t1.trans t3)⟩⟩
  · exact q1.elim
/-- C(..) -/
def wMake (C : Addr) (sp : SpM) (Em : XM) (t : TAm) : TEm := fun ρ m Q => t ρ m fun ds m1 => ∀ p, m1 p = none → sp (.ref p :: ds) (mput m1 p (.ins C [])) (fun d m2 => d = .non ∧ Q (.ref p) m2) Em
theorem make_new {K : PySem.W.Frag} {m : Mem} {H : Hp} (r : RM K H m) {x dx : Addr} (hx : H x = none) (hdx : H dx = none) (ne : dx ≠ x) :
    m x = none ∧ RM K (upd (upd H dx (.own x)) x (.ins C dx [])) (mput m x (.ins C [])) ∧ Step m H (mput m x (.ins C [])) (upd (upd H dx (.own x)) x (.ins C dx [])) := by
  have r1 : RM K (upd H dx (.own x)) m := r.hid hdx
  have hx1 : (upd H dx (.own x)) x = none := by rw [upd_ne ne.symm]; exact hx
  exact ⟨r.out hx, r1.new hx1 ⟨dx, [], rfl, .nil⟩, (Step.hid r hdx).trans (Step.new r1 hx1)⟩
theorem mx_make (M : Mk X.K C g) (F : FnM X.prog X.w X.K X.mg X.base CX k g fd ps sp) (hr : Room (k + 1) X.A) (hm : X.mg x = some (.ref C)) (hb : Binds X.K fd ps []) (hx : Passes CX X (uX X.K B Em))
    (ha : MA X B (e :: es) la) (hg : Gl X x := by rfl) (hdb : (x == ("__debug__" : Str)) = false := by decide) (he : starEach (e :: es) X.env = (false, eval e X.env) :: starEach es X.env := by rfl) (hpl : (backTo pos (starEach es X.env)).any (·.1) = false := by rfl) :
    MX X B (.Call (.Name x p) (e :: es) [] pos) (wMake C sp Em la) := peImp (pe_make M F hr hg hm hb .nil hx ha hdb he hpl) fun σ H Q ⟨ρ, m, Qm, A, q, k⟩ => by
  refine ⟨ρ, m, _, A, q, fun ds m1 vs H1 q1 r1 t1 x1 => ?_⟩
  intro a dx ha hdx ne
  obtain ⟨ma, r2, t2⟩ := make_new (C := C) r1 ha hdx ne
  rw [List.append_nil]
  have t12 := t1.trans t2
  exact ⟨_, _, _, Em, Reps.cons Rep.ref (x1.stay (t2.tups r1)), r2, q1 a ma, fun d m' v H' ⟨e, q2⟩ r3 t3 x3 => by subst e; exact ⟨Rep.non_iff.mp x3, k _ _ _ _ q2 r3 (t12.trans t3) Rep.ref⟩,
    fun C m' H' q2 r3 t3 => ⟨C, m', rfl, rfl, q2, r3, B.cl _ _ _ _ A.b (t12.trans t3)⟩⟩
end
/-! ### the same within a try -/
section
variable {X : Cx} {B : Bs} {o e : Expr} {es : List Expr} {pos p apos : Pos} {pa : TEm} {la : TAm} {k : Nat} {g C : Addr} {fd : FuncData} {ps : List Str} {sp : SpM} {x n : Str} {W : WX} {Es : XS}
theorem run_makeS {CX : CXT} {sp : Sp} {E : St → XK} {pins : List (Addr × Obj)} {σ : St} {H : Hp} {s : Shared} {Q : VK} {us : List Value} {vs : List V} (M : Mk X.K C g) (F : FnOk X.prog X.w X.K X.mg X.base CX k g fd ps sp) (hr : Room (k + 1) X.A) (hb : Binds X.K fd ps [])
    (hx : PassesAt CX X σ (E σ)) (I : Inv X pins σ H s) (r : Vals vs us)
    (h : ∀ x dx, H x = none → H dx = none → dx ≠ x → sp (.ref x :: vs) (upd (upd H dx (.own x)) x (.ins C dx [])) (fun v H2 => v = .non ∧ Q (.ref x) H2) (E σ)) :
    wpAny (model X.prog X.w) X.A (call (.ref C) us) (EP X pins σ Q) X.xe s := by
  have hq := h (s.heap.objs.size + 1) s.heap.objs.size (I.hok.fresh (Nat.le_succ _)) (I.hok.fresh (Nat.le_refl _)) (Nat.ne_of_lt (Nat.lt_succ_self _))
  have I2 := Inv.made (C := C) I
  have r2 : Vals (V.ref (s.heap.objs.size + 1) :: vs) (Value.ref (s.heap.objs.size + 1) :: us) := .cons rfl r
  have hl : (Value.ref (s.heap.objs.size + 1) :: us).length = ps.length := by
    have e := r2.length
    rw [F.len _ _ _ _ hq] at e
    exact e.symm
  have b := hb _ (Value.ref (s.heap.objs.size + 1) :: us) I2.kIn (by rw [List.append_nil]; exact hl)
  rw [List.append_nil] at b
  refine wpAny_call (make_map (f := g) I.kIn M.makes M.init (beq_iff_eq.mp M.fn) (codeAny_mono (F.run _ X.stack _ _ ⟨Value.ref (s.heap.objs.size + 1) :: us, []⟩ (Value.ref (s.heap.objs.size + 1) :: us) _ _ (E σ) (hr.make C us [])
    (I2.env0.make C us []) b r2 hq) fun r s' hq' => ?_))
  cases r with
  | error e => exact hx pins _ _ e s' I2 hq'
  | ok fl =>
    cases fl with
    | ret u =>
      obtain ⟨v, H', I3, rv, ev, q3⟩ := I2.after hq'
      subst ev
      exact ⟨rv, ⟨V.ref (s.heap.objs.size + 1), H', I3, rfl, q3⟩⟩
    | next => exact False.elim hq'
    | brk => exact False.elim hq'
    | cont => exact False.elim hq'
def tMakeS (C : Addr) (sp : Sp) (E : St → XK) (t : TA) : TE := fun σ H Q => t σ H fun vs H1 => ∀ x dx, H1 x = none → H1 dx = none → dx ≠ x →
  sp (.ref x :: vs) (upd (upd H1 dx (.own x)) x (.ins C dx [])) (fun v H2 => v = .non ∧ Q (.ref x) H2) (E σ)
theorem pe_makeS {CX : CXT} {sp : Sp} {E : St → XK} {t : TA} (M : Mk X.K C g) (F : FnOk X.prog X.w X.K X.mg X.base CX k g fd ps sp) (hr : Room (k + 1) X.A) (hg : Gl X x) (hm : X.mg x = some (.ref C)) (hb : Binds X.K fd ps []) (hx : ∀ σ, PassesAt CX X σ (E σ))
    (ha : PA X (e :: es) t) (hdb : (x == ("__debug__" : Str)) = false := by decide) (he : starEach (e :: es) X.env = (false, eval e X.env) :: starEach es X.env := by rfl) (hpl : (backTo pos (starEach es X.env)).any (·.1) = false := by rfl) :
    PE X (.Call (.Name x p) (e :: es) [] pos) (tMakeS C sp E t) := by
  refine ⟨fun pins s σ H Q I h => ?_⟩
  refine wpAny_Call_Name_kw (ld_glob I hg hm ?_ hdb)
  refine PySem.W.callWith_K (h₀ := X.base) I.ok.mod.kin M.kp (thn (ha.run pos pins s σ H _ I h) fun us s1 ⟨vs, H1, I1, r, q⟩ => ⟨I1.kIn, ?_⟩) he hpl
  exact run_makeS M F hr hb (hx σ) I1 r q
def wMakeS (C : Addr) (sp : SpM) (Es : XS) (t : TAm) : TEm := fun ρ m Q => t ρ m fun ds m1 => ∀ p, m1 p = none → sp (.ref p :: ds) (mput m1 p (.ins C [])) (fun d m2 => d = .non ∧ Q (.ref p) m2) fun C m2 => Es C ρ m2
theorem mx_makeS (M : Mk X.K C g) (F : FnM X.prog X.w X.K X.mg X.base (L2.CX X.prog X.w) k g fd ps sp) (hr : Room (k + 1) X.A) (hm : X.mg x = some (.ref C)) (hb : Binds X.K fd ps []) (tk : Takes X W)
    (hw : ∀ C ρ m σ H, Es C ρ m → At X.K B σ H ρ m → W (.ref C) none σ H)
    (ha : MA X B (e :: es) la) (hg : Gl X x := by rfl) (hdb : (x == ("__debug__" : Str)) = false := by decide) (he : starEach (e :: es) X.env = (false, eval e X.env) :: starEach es X.env := by rfl) (hpl : (backTo pos (starEach es X.env)).any (·.1) = false := by rfl) :
    MX X B (.Call (.Name x p) (e :: es) [] pos) (wMakeS C sp Es la) := peImp (pe_makeS M F hr hg hm hb (fun σ => passAt tk σ) ha hdb he hpl) fun σ H Q ⟨ρ, m, Qm, A, q, k⟩ => by
  refine ⟨ρ, m, _, A, q, fun ds m1 vs H1 q1 r1 t1 x1 => ?_⟩
  intro a dx ha hdx ne
  obtain ⟨ma, r2, t2⟩ := make_new (C := C) r1 ha hdx ne
  have t12 := t1.trans t2
  exact ⟨_, _, _, _, Reps.cons Rep.ref (x1.stay (t2.tups r1)), r2, q1 a ma, fun d m' v H' ⟨e, q2⟩ r3 t3 x3 => by subst e; exact ⟨Rep.non_iff.mp x3, k _ _ _ _ q2 r3 (t12.trans t3) Rep.ref⟩,
    fun C m' H' q2 r3 t3 => hw C ρ m' σ H' q2 (A.step r3 (t12.trans t3))⟩
def tMethS (C : Addr) (m : Str) (sp : Sp) (E : St → XK) (ta : TE) (t : TA) : TE := fun σ H Q => ta σ H fun x H1 => ∃ a dx fs, x = .ref a ∧ H1 a = some (.ins C dx fs) ∧ fs.lookup m = none ∧ t σ H1 fun vs H2 => sp (x :: vs) H2 Q (E σ)
theorem pe_methS0 {CX : CXT} {sp : Sp} {E : St → XK} {ta : TE} {pl : Sem Bool} (he : PE X o ta) (c : Cls X.K C) (hm : Meth X.K C n g) (F : FnOk X.prog X.w X.K X.mg X.base CX k g fd ps sp) (hr : Room k X.A) (hb : Binds X.K fd ps []) (hx : ∀ σ, PassesAt CX X σ (E σ))
    (ht : eval (.Call (.Attribute o n apos) [] [] pos) X.env = (do
      let ov ← eval o X.env
      standAt apos.atName
      let (f, first) ← holding [ov] (getMethod ov n pl)
      callWith pos f first (backTo pos (starEach [] X.env)) (backToKw pos (keywordEach [] X.env))) := by rfl) :
    PE X (.Call (.Attribute o n apos) [] [] pos) (tMethS C n sp E ta tNil) := by
  refine ⟨fun pins s σ H Q I h => ?_⟩
  refine PySem.W.methodCall_KW (pl := pl) (thn (he.run pins s σ H _ I h) fun u s1 ⟨x, H1, I1, rx, a, dx, fs, ex, ea, l, q⟩ => ?_) ht
  subst ex
  obtain rfl : u = Value.ref a := rx
  refine getmeth_ok I1 ea c hm l ?_
  exact PySem.W.callWith_K0 (first := [.ref a]) I1.kIn hm.kp (run_fnS (us := [.ref a]) (vs := [.ref a]) F hr hb (hx σ) I1 (.cons rfl .nil) q)
def wMethS (C : Addr) (n : Str) (sp : SpM) (Es : XS) (p : TEm) (t : TAm) : TEm := fun ρ m Q => p ρ m fun x m1 => refAt x fun a => ∃ fs, m1 a = some (.ins C fs) ∧ fs.lookup n = none ∧ t ρ m1 fun ds m2 => sp (.ref a :: ds) m2 Q fun C m3 => Es C ρ m3
theorem mx_methS0 {pl : Sem Bool} (he : MX X B o pa) (c : Cls X.K C) (hm : Meth X.K C n g) (F : FnM X.prog X.w X.K X.mg X.base (L2.CX X.prog X.w) k g fd ps sp) (hr : Room k X.A) (hb : Binds X.K fd ps []) (tk : Takes X W)
    (hw : ∀ C ρ m σ H, Es C ρ m → At X.K B σ H ρ m → W (.ref C) none σ H)
    (ht : eval (.Call (.Attribute o n apos) [] [] pos) X.env = (do
      let ov ← eval o X.env
      standAt apos.atName
      let (f, first) ← holding [ov] (getMethod ov n pl)
      callWith pos f first (backTo pos (starEach [] X.env)) (backToKw pos (keywordEach [] X.env))) := by rfl) :
    MX X B (.Call (.Attribute o n apos) [] [] pos) (wMethS C n sp Es pa wNil) := peImp (pe_methS0 (ta := uE X.K B pa) he c hm F hr hb (fun σ => passAt tk σ) ht) fun σ H Q h => by
  obtain ⟨ρ, m, Qm, A, q, k⟩ := h
  refine ⟨ρ, m, _, A, q, fun x m1 v H1 q1 r1 t1 x1 => ?_⟩
  unfold refAt at q1
  split at q1
  · obtain ⟨fs, e, l, q1⟩ := q1
    obtain ⟨u, h1, dx, xs, rfl, kv⟩ := r1 _ _ e
    refine ⟨_, dx, xs, Rep.ref_iff.mp x1, h1, kv.look.2 l, ?_⟩
    exact ⟨_, m1, Qm, _, Reps.cons x1 Reps.nil, r1, q1, fun d m' v H' q3 r3 t3 x3 => k d m' v H' q3 r3 (t1.trans t3) x3, fun C m' H' q3 r3 t3 => hw C ρ m' σ H' q3 (A.step r3 (t1.trans t3))⟩
  · exact q1.elim
end
section
variable {E : EndsM} {ρ : StM} {m : Mem} {Q : KM} {pa pv : TEm} {la : TAm} {K : PySem.W.Frag} {f : Str}
theorem i_fld {a C : Addr} {fs : List (Str × D)} {L : List Str} {d : D} (e : m a = some (.ins C fs)) (ok : ObK K C L) (hf : f ∈ L) (l : fs.lookup f = some d) (q : Q d m) : refAt (.ref a) fun a => ∃ C fs L d, m a = some (.ins C fs) ∧ ObK K C L ∧ f ∈ L ∧ fs.lookup f = some d ∧ Q d m := ⟨C, fs, L, d, e, ok, hf, l, q⟩
theorem i_wfld (h : pa ρ m fun x m1 => refAt x fun a => ∃ C fs L d, m1 a = some (.ins C fs) ∧ ObK K C L ∧ f ∈ L ∧ fs.lookup f = some d ∧ Q d m1) : wFld K f pa ρ m Q := h
theorem i_wsetF (h : pv ρ m fun y m1 => pa ρ m1 fun x m2 => refAt x fun a => ∃ C fs L, m2 a = some (.ins C fs) ∧ ObK K C L ∧ f ∈ L ∧ fs.length < 1000 ∧ E.nx ρ (mput m2 a (.ins C (putFD f y fs)))) : wSetF K f pa pv E ρ m := h
theorem i_setF {a C : Addr} {fs : List (Str × D)} {L : List Str} {R : Mem → Prop} {y : D} (e : m a = some (.ins C fs)) (ok : ObK K C L) (hf : f ∈ L) (l : fs.length < 1000) (q : R (mput m a (.ins C (putFD f y fs)))) : refAt (.ref a) fun a => ∃ C fs L, m a = some (.ins C fs) ∧ ObK K C L ∧ f ∈ L ∧ fs.length < 1000 ∧ R (mput m a (.ins C (putFD f y fs))) := ⟨C, fs, L, e, ok, hf, l, q⟩
theorem i_wmeth {C : Addr} {n : Str} {sp : SpM} {Em : XM} (h : pa ρ m fun x m1 => refAt x fun a => ∃ fs, m1 a = some (.ins C fs) ∧ fs.lookup n = none ∧ la ρ m1 fun ds m2 => sp (.ref a :: ds) m2 Q Em) : wMeth C n sp Em pa la ρ m Q := h
theorem i_meth {a C : Addr} {fs : List (Str × D)} {n : Str} {R : Prop} (e : m a = some (.ins C fs)) (l : fs.lookup n = none) (q : R) : ∃ fs, m a = some (.ins C fs) ∧ fs.lookup n = none ∧ R := ⟨fs, e, l, q⟩
theorem i_wmake {C : Addr} {sp : SpM} {Em : XM} (h : la ρ m fun ds m1 => ∀ p, m1 p = none → sp (.ref p :: ds) (mput m1 p (.ins C [])) (fun d m2 => d = .non ∧ Q (.ref p) m2) Em) : wMake C sp Em la ρ m Q := h
theorem i_wmakeS {C : Addr} {sp : SpM} {Es : XS} (h : la ρ m fun ds m1 => ∀ p, m1 p = none → sp (.ref p :: ds) (mput m1 p (.ins C [])) (fun d m2 => d = .non ∧ Q (.ref p) m2) fun C m2 => Es C ρ m2) : wMakeS C sp Es la ρ m Q := h
theorem i_wcallS {sp : SpM} {Es : XS} (h : la ρ m fun ds m1 => sp ds m1 Q fun C m2 => Es C ρ m2) : wCallS sp Es la ρ m Q := h
theorem i_try {C : Addr} {i : Nat} {tb : XS → TSm} {ts : Addr → TSm} (h : tb (fun C' ρ' m' => C' = C ∧ ∀ a, m' a = none → ts a { nx := fun ρ2 m2 => E.nx (ρ2.set i none) m2, rt := E.rt, bk := fun ρ2 m2 => E.bk (ρ2.set i none) m2, ct := fun ρ2 m2 => E.ct (ρ2.set i none) m2 } (ρ'.set i (some (.ref a))) m') E ρ m) : wTryAs C i tb ts E ρ m := h
end
end Mm
namespace Mm
open PySem L2
open PyProof.Rows (envOfC)

/-! numbers that are told -/
inductive Jn where
  | plus | minus | times | most | least
def Jn.w : Jn → Str
  | .plus => "plus" | .minus => "minus" | .times => "times" | .most => "most" | .least => "least"
def Jn.ap : Jn → Int → Int → Int
  | .plus, a, b => a + b | .minus, a, b => a - b | .times, a, b => a * b | .most, a, b => if b > a then b else a | .least, a, b => if b < a then b else a
inductive Told where
  | num (i : Int) | read (x : Str) | bin (j : Jn) (a b : Told)
def Told.d : Told → D
  | .num i => .tup [.str "num", .int i]
  | .read x => .tup [.str "read", .str x]
  | .bin j a b => .tup [.str j.w, a.d, b.d]
def Told.dp : Told → Nat
  | .bin _ a b => max a.dp b.dp + 1
  | _ => 0
abbrev Row := List (Str × Int)
def Row.o (r : Row) : O := .dK (r.map fun p => (.inr p.1, .int p.2))
def Row.at (r : Row) (x : Str) : Int := (r.lookup x).getD 0
def Told.val (r : Row) : Told → Int
  | .num i => i
  | .read x => r.at x
  | .bin j a b => j.ap (a.val r) (b.val r)
/-- its names stand in the row, its numbers are within -/
def Told.ok (r : Row) : Told → Prop
  | .num i => i.natAbs < 2 ^ 50
  | .read x => ∃ i, r.lookup x = some i ∧ i.natAbs < 2 ^ 50
  | .bin _ a b => a.ok r ∧ b.ok r
theorem row_val {r : Row} {x : Str} {i : Int} (h : r.lookup x = some i) : valD (r.map fun p => ((.inr p.1 : Key), D.int p.2)) (.inr x) = some (.int i) := by
  induction r with
  | nil => simp at h
  | cons p r ih =>
    obtain ⟨y, j⟩ := p
    by_cases e : x = y
    · subst e
      simp [List.lookup] at h
      subst h
      simp [valD]
    · have e2 : (x == y) = false := by simpa using e
      simp only [List.lookup, e2] at h
      have := ih h
      have e' : ¬ y = x := fun z => e z.symm
      simpa [valD, e'] using this
theorem pow_mono {a b : Nat} (h : a ≤ b) {n : Nat} (k : n < 2 ^ a) : n < 2 ^ b := Nat.lt_of_lt_of_le k (Nat.pow_le_pow_right (by decide) h)
theorem ap_small {j : Jn} {a b : Int} {n : Nat} (ha : a.natAbs < 2 ^ n) (hb : b.natAbs < 2 ^ n) (hn : 0 < n) : (j.ap a b).natAbs < 2 ^ (2 * n) := by
  have h2 : 2 ^ (n + 1) ≤ 2 ^ (2 * n) := Nat.pow_le_pow_right (by decide) (by omega)
  have h3 : 2 ^ (n + 1) = 2 ^ n + 2 ^ n := by rw [Nat.pow_succ]; omega
  cases j with
  | plus => show (a + b).natAbs < _; omega
  | minus => show (a - b).natAbs < _; omega
  | times =>
    show (a * b).natAbs < _
    have e : 2 * n = n + n := by omega
    rw [e]; exact wide_lt ha hb
  | most => show (if b > a then b else a).natAbs < _; split <;> omega
  | least => show (if b < a then b else a).natAbs < _; split <;> omega
theorem Told.small {r : Row} : ∀ {t : Told}, t.ok r → (t.val r).natAbs < 2 ^ (50 * 2 ^ t.dp)
  | .num i, h => h
  | .read x, ⟨i, e, h⟩ => by
    show (Row.at r x).natAbs < _
    unfold Row.at; rw [e]; exact h
  | .bin j a b, ⟨h1, h2⟩ => by
    have e : 50 * 2 ^ (Told.bin j a b).dp = 2 * (50 * 2 ^ max a.dp b.dp) := by show 50 * 2 ^ (max a.dp b.dp + 1) = _; rw [Nat.pow_succ]; omega
    rw [e]
    have m1 : 50 * 2 ^ a.dp ≤ 50 * 2 ^ max a.dp b.dp := Nat.mul_le_mul_left _ (Nat.pow_le_pow_right (by decide) (Nat.le_max_left _ _))
    have m2 : 50 * 2 ^ b.dp ≤ 50 * 2 ^ max a.dp b.dp := Nat.mul_le_mul_left _ (Nat.pow_le_pow_right (by decide) (Nat.le_max_right _ _))
    exact ap_small (pow_mono m1 (Told.small h1)) (pow_mono m2 (Told.small h2)) (by have : 0 < 2 ^ max a.dp b.dp := Nat.pow_pos (by decide); omega)
theorem two_pow_le {a b : Nat} (h : a ≤ b) : 2 ^ a ≤ 2 ^ b := Nat.pow_le_pow_right (by decide) h
theorem Told.wide {r : Row} {t u : Told} (h1 : t.ok r) (h2 : u.ok r) (d1 : t.dp ≤ 12) (d2 : u.dp ≤ 12) : CMulW (t.val r) (u.val r) := by
  have e1 : 50 * 2 ^ t.dp ≤ 50 * 2 ^ 12 := Nat.mul_le_mul_left _ (two_pow_le d1)
  have e2 : 50 * 2 ^ u.dp ≤ 50 * 2 ^ 12 := Nat.mul_le_mul_left _ (two_pow_le d2)
  exact wide_mul (pow_mono e1 (Told.small h1)) (pow_mono e2 (Told.small h2)) (by decide) (by decide) (by decide)

/-- a def as it stands -/
structure Df (K : PySem.W.Frag) (mg : Str → Option Value) (x : Str) (f : Addr) (fd : FuncData) (ps : List Str) : Prop where
  b : Binds K fd ps []
  k : PySem.W.keepIn K (.ref f) = true
  m : mg x = some (.ref f)
/-- built-ins that are not hidden -/
structure Bl (mg : Str → Option Value) : Prop where
  b_ValueError : mg "ValueError" = none
  b_int : mg "int" = none
  b_range : mg "range" = none
  b_isinstance : mg "isinstance" = none
  b_str : mg "str" = none
  b_all : mg "all" = none
  b_len : mg "len" = none
  b_tuple : mg "tuple" = none
  b_bool : mg "bool" = none
structure Gv (K : PySem.W.Frag) (mg : Str → Option Value) : Prop where
  JOINS : GlT K mg "JOINS" (.tup [.str "plus", .str "minus", .str "times", .str "most", .str "least"])
  SMALL : GlT K mg "SMALL" (.str "abcdefghijklmnopqrstuvwxyz")
  NONE : GlT K mg "NONE" (.tup [.str "none"])
  MOST_DEEP : GlT K mg "MOST_DEEP" (.int 12)
  MOST_HOURS : GlT K mg "MOST_HOURS" (.int 99)
  MOST_OFTEN : GlT K mg "MOST_OFTEN" (.int 9)
  GREATEST : GlT K mg "GREATEST" (.int 1000000000000)
theorem fn_none {P : Program} {w : World} {K : PySem.W.Frag} {mg : Str → Option Value} {base : Heap} {CX : CXT} {k : Nat} {f : Addr} {fd : FuncData} {ps : List Str} {sp : SpM} (h : ∀ ds m Q E, ¬ sp ds m Q E) : FnM P w K mg base CX k f fd ps sp :=
  ⟨fun vs H Q E ⟨ds, m, Qm, Em, _, _, z, _⟩ => (h _ _ _ _ z).elim, fun A outer s H args us vs Q E _ _ _ _ ⟨ds, m, Qm, Em, _, _, z, _⟩ => (h _ _ _ _ z).elim⟩
def topS (i : Nat) : Stmt := PySem.Challenge.pw_contractbook_k03_contracts_refused.main.body.getD i (.Pass ⟨0, 0, 0, 0⟩)
variable {P : Program} {w : World} {K : PySem.W.Frag} {mg : Str → Option Value} {base : Heap}

local macro_rules | `(tactic| wtm_at "mem") => `(tactic| with_reducible first | assumption | exact mput_same | (apply mput_new; assumption; wtm_at "mem") | (apply mput_off; assumption; wtm_at "mem") | (apply mput_off'; assumption; wtm_at "mem") | (apply rd_K; wtm_at "mem") | (apply rd_L; wtm_at "mem") | (apply rd_T; wtm_at "mem") | (apply rd_I; wtm_at "mem") | (apply rd_frz; wtm_at "mem") | fail)
local macro_rules | `(tactic| wtm_at "dec") => `(tactic| first | with_reducible rfl | (simp only [isN, ofString_inj, decide_eq_true_eq, decide_eq_false_iff_not, String.reduceEq, reduceCtorEq, not_false_eq_true, decide_true, decide_false, Bool.not_true, Bool.not_false, Bool.not_eq_true', Bool.not_eq_false', Int.reduceLT, Int.reduceLE, Int.reduceEq]; done) | (decide) | (simp; done) | fail)
local macro_rules | `(tactic| wtm_at "get") => `(tactic| fail)
local macro_rules | `(tactic| wtm_at "len") => `(tactic| first | (simp; done) | fail)
local macro_rules | `(tactic| wtm_at "ty") => `(tactic| first | (with_reducible rfl) | assumption | (apply ty_L; wtm_at "mem") | (apply ty_K; wtm_at "mem") | rfl | fail)
local macro_rules | `(tactic| wtm_at "om") => `(tactic| first | assumption | (with_reducible decide) | omega | ((try dsimp only); omega) | fail)
local macro_rules | `(tactic| wtm_at "one") => `(tactic| first
  | (with_reducible first
  | refine i_bl ?_ | (apply i_var; (with_unfolding_all rfl))
  | refine i_seq ?_ | refine i_next ?_ | refine i_if ?_ | refine i_ret ?_ | refine i_set ?_
  | refine i_eqqS ?_ | refine i_eqqI ?_ | refine i_sub0 ?_ | refine i_sub1 ?_ | refine i_sub2 ?_ | (apply i_subT; (with_unfolding_all rfl)) | (apply i_subK; (focus (wtm_at "mem")); (focus (wtm_at "get"))) | refine i_I0 ?_ | refine i_plusI ?_
  | refine i_neqS ?_ | refine i_neqI ?_ | refine i_put ?_ | refine i_ref ?_
  | refine i_isN ?_ | refine i_notN ?_ | refine i_max2 ?_ | refine i_min2 ?_ | refine i_abs ?_ | refine i_intI ?_ | refine i_intB ?_
  | refine i_lenT ?_ | (apply i_lenL; (focus (wtm_at "mem"))) | refine i_listT ?_ | (apply i_listL; (focus (wtm_at "mem"))) | refine i_tupT ?_ | (apply i_tupL; (focus (wtm_at "mem"))) | refine i_neg ?_ | refine i_eqqB ?_ | refine i_neqB ?_
  | refine i_drop ?_ | refine i_retN ?_ | refine i_asg ?_ | refine i_par ?_ | refine i_gN ?_ | (apply i_gTup; (with_unfolding_all rfl)) | refine i_gC ?_ | refine i_gE ?_
  | refine i_for ?_ | refine i_lc ?_ | refine i_two ?_ | refine i_tupAt ?_ | refine i_int1 ?_ | refine i_int2 ?_ | refine i_intAt ?_ | refine i_slT ?_ | refine i_strAt ?_ | refine i_disp ?_ | refine i_pN ?_ | refine i_pC ?_ | (apply i_slL; (focus (wtm_at "mem")))
  | assumption)
  | ((with_reducible refine i_iteT ?_ ?_); (focus (wtm_at "dec"))) | ((with_reducible refine i_iteF ?_ ?_); (focus (wtm_at "dec")))
  | ((with_reducible refine i_dispE ?_ ?_ ?_); (focus (with_unfolding_all rfl)); (focus (wtm_at "len"))) | ((with_reducible apply i_isi); (focus (wtm_at "ty")); (focus (decide))) | ((with_reducible refine i_powL ?_ ?_); (focus (wtm_at "om"))) | ((with_reducible refine i_timesLL ?_ ?_); (focus (wtm_at "om"))) | ((with_reducible refine i_divW ?_ ?_ ?_); (focus (wtm_at "om")); (focus (wtm_at "om"))) | ((with_reducible refine i_mod ?_ ?_); (focus (wtm_at "om"))) | ((with_reducible refine And.intro (sl ?_) ?_); (focus (wtm_at "len"))) | ((with_reducible refine i_plusT (sl ?_) ?_); (focus (wtm_at "len"))) | assumption | (refine i_rt ?_; assumption))
local macro_rules | `(tactic| wtm_at "go") => `(tactic| ((try delta wBin wCons wNil wTest wCB wCall wTup wLst wC wAnd wOr wNot wAndV wOrV wNotV wIf wUn wChain iL iH iT iR1 iR2 iLS wApp wExt wPart wNoPart wSl wGet2 wJoin wAndT); repeat wtm_at "one"))

def spNum (n : Nat) : SpM := fun ds m Q _ => ∃ (t : Told) (a : Addr) (r : Row), ds = [t.d, .ref a] ∧ t.dp < n ∧ n ≤ 13 ∧ rdM m a = some r.o ∧ t.ok r ∧ Q (.int (t.val r)) m

/-! ### what is drawn: the draw's dict -/
structure Dr where
  sc : Addr
  nm : Addr
  at_ : Int
  size : Int
  place : Int
  turn : Int
  talk : Int
  rest : Int
  mixed : Int
def Dr.kvs (s : Dr) : List (Key × D) := [(.inr "numbers", .ref s.sc), (.inr "at", .int s.at_), (.inr "size", .int s.size), (.inr "place", .int s.place), (.inr "turn", .int s.turn), (.inr "talk", .int s.talk), (.inr "rest", .int s.rest), (.inr "names", .ref s.nm), (.inr "mixed", .int s.mixed)]
abbrev Dr.o (s : Dr) : O := .dK s.kvs
structure DrI (K : PySem.W.Frag) (m : Mem) (a : Addr) (s : Dr) : Prop where
  e : m a = some s.o
  sc : ∃ ns, LsK K m s.sc ns ∧ ns.length ≤ 63
  at0 : 0 ≤ s.at_
  rest0 : 0 ≤ s.rest
  mix0 : 0 ≤ s.mixed
  mix1 : s.mixed < 2147483647
/-- drawn on: but the place, the rest and the mixture all stays -/
def Dr.nx (s s' : Dr) : Prop := s'.sc = s.sc ∧ s'.nm = s.nm ∧ s'.size = s.size ∧ s'.place = s.place ∧ s'.turn = s.turn ∧ s'.talk = s.talk
theorem Dr.nx_refl {s : Dr} : s.nx s := ⟨rfl, rfl, rfl, rfl, rfl, rfl⟩
theorem Dr.nx_trans {s s' s2 : Dr} (a : s.nx s') (b : s'.nx s2) : s.nx s2 := by
  obtain ⟨a1, a2, a3, a4, a5, a6⟩ := a
  obtain ⟨b1, b2, b3, b4, b5, b6⟩ := b
  exact ⟨b1.trans a1, b2.trans a2, b3.trans a3, b4.trans a4, b5.trans a5, b6.trans a6⟩
theorem LsK.putD {K : PySem.W.Frag} {m : Mem} {a b : Addr} {o o' : O} {ns : List Int} (h : LsK K m a ns) (e : m b = some o) (w : ∀ ds, rdM m b ≠ some (.lst ds)) : LsK K (mput m b o') a ns := by
  rcases h with h | h
  · exact LsK.put (.inl h) fun z => by subst z; exact w _ h
  · exact .inr h
theorem DrI.rd {K : PySem.W.Frag} {m : Mem} {a : Addr} {s : Dr} (h : DrI K m a s) : rdM m a = some s.o := rd_of h.e trivial
/-- all else may change, too -/
theorem DrI.put {K : PySem.W.Frag} {m : Mem} {a : Addr} {s s' : Dr} (h : DrI K m a s) (e : s'.sc = s.sc) (h1 : 0 ≤ s'.at_) (h2 : 0 ≤ s'.rest) (h3 : 0 ≤ s'.mixed) (h4 : s'.mixed < 2147483647) : DrI K (mput m a s'.o) a s' := by
  obtain ⟨ns, l, z⟩ := h.sc
  refine ⟨mput_same, ⟨ns, by rw [e]; exact l.putD h.e fun ds z => (by rw [h.rd] at z; cases z), z⟩, h1, h2, h3, h4⟩
theorem DrI.new {K : PySem.W.Frag} {m : Mem} {a p : Addr} {s : Dr} {o : O} (h : DrI K m a s) (hp : m p = none) : DrI K (mput m p o) a s := by
  obtain ⟨ns, l, z⟩ := h.sc
  refine ⟨mput_new hp h.e, ⟨ns, ?_, z⟩, h.at0, h.rest0, h.mix0, h.mix1⟩
  rcases l with l | l
  · refine .inl ?_
    unfold rdM at l ⊢
    rw [mput_ne]; exact l
    rintro rfl; rw [hp] at l; cases l
  · exact .inr l
def spTaken (K : PySem.W.Frag) : SpM := fun ds m Q _ => ∃ (a : Addr) (k : Int) (s : Dr), ds = [.ref a, .int k] ∧ DrI K m a s ∧ 0 < k ∧ k ≤ 10 ^ 13 ∧
  ∀ r s', 0 ≤ r → r < k → s.nx s' → DrI K (mput m a s'.o) a s' → Q (.int r) (mput m a s'.o)
abbrev s__law_taken : Stmt := topS 26
theorem sc__law_taken : FnScope ["_law_s", "_law_most", "_law_found", "_law_number_here"] ["_law_s", "_law_most"] (defScope s__law_taken) := ⟨rfl, rfl, rfl, by decide +kernel, rfl, by decide +kernel, by decide +kernel⟩
theorem small_log {k : Int} (h0 : 0 < k) (h1 : k ≤ 10 ^ 13) : k.natAbs.log2 < 9000 := by
  have h2 : k.natAbs < 2 ^ 50 := by omega
  have := PySem.Flt.log2_lt_of (k := 50) (by decide) h2
  omega
theorem i_subS' {K : PySem.W.Frag} {m : Mem} {Q : KM} {a : Addr} {i n : Int} {ns : List Int} (h : LsK K m a ns) (e : atI ns i = some n) (q : Q (.int n) m) : wSubS K (.ref a) (.int i) m Q := ⟨ns, n, h, e, q⟩
theorem i_lenS' {K : PySem.W.Frag} {m : Mem} {Q : KM} {a : Addr} {ns : List Int} (h : LsK K m a ns) (q : Q (.int ns.length) m) : wLenS K [.ref a] m Q := ⟨ns, h, q⟩
theorem atI_some {α : Type} {xs : List α} {i : Int} (h0 : 0 ≤ i) (h1 : i < xs.length) : ∃ x, atI xs i = some x := by
  have e : i = ((i.toNat : Nat) : Int) := by omega
  rw [e]
  exact ⟨xs[i.toNat]'(by omega), atI_nat (by simp [show i.toNat < xs.length by omega])⟩
theorem Dr.g_numbers {s : Dr} : valD s.kvs (.inr "numbers") = some (.ref s.sc) := by
  simp [valD, Dr.kvs, ofString_inj]
theorem Dr.g_at {s : Dr} : valD s.kvs (.inr "at") = some (.int s.at_) := by
  simp [valD, Dr.kvs, ofString_inj]
theorem Dr.g_size {s : Dr} : valD s.kvs (.inr "size") = some (.int s.size) := by
  simp [valD, Dr.kvs, ofString_inj]
theorem Dr.g_place {s : Dr} : valD s.kvs (.inr "place") = some (.int s.place) := by
  simp [valD, Dr.kvs, ofString_inj]
theorem Dr.g_turn {s : Dr} : valD s.kvs (.inr "turn") = some (.int s.turn) := by
  simp [valD, Dr.kvs, ofString_inj]
theorem Dr.g_talk {s : Dr} : valD s.kvs (.inr "talk") = some (.int s.talk) := by
  simp [valD, Dr.kvs, ofString_inj]
theorem Dr.g_rest {s : Dr} : valD s.kvs (.inr "rest") = some (.int s.rest) := by
  simp [valD, Dr.kvs, ofString_inj]
theorem Dr.g_names {s : Dr} : valD s.kvs (.inr "names") = some (.ref s.nm) := by
  simp [valD, Dr.kvs, ofString_inj]
theorem Dr.g_mixed {s : Dr} : valD s.kvs (.inr "mixed") = some (.int s.mixed) := by
  simp [valD, Dr.kvs, ofString_inj]
local macro_rules | `(tactic| wtm_at "get") => `(tactic| with_reducible first | exact Dr.g_rest | exact Dr.g_at | exact Dr.g_numbers | exact Dr.g_names | exact Dr.g_mixed | exact Dr.g_size | exact Dr.g_place | exact Dr.g_turn | exact Dr.g_talk | fail)
theorem Dr.p_rest {s : Dr} {v : Int} : putD s.kvs (.inr "rest") (.int v) = Dr.kvs { s with rest := v } := by
  simp [putD, Dr.kvs, ofString_inj]
theorem Dr.p_at {s : Dr} {v : Int} : putD s.kvs (.inr "at") (.int v) = Dr.kvs { s with at_ := v } := by
  simp [putD, Dr.kvs, ofString_inj]
theorem Dr.p_mixed {s : Dr} {v : Int} : putD s.kvs (.inr "mixed") (.int v) = Dr.kvs { s with mixed := v } := by
  simp [putD, Dr.kvs, ofString_inj]
theorem Dr.p_names {s : Dr} {v : Addr} : putD s.kvs (.inr "names") (.ref v) = Dr.kvs { s with nm := v } := by
  simp [putD, Dr.kvs, ofString_inj]
theorem Dr.p_size {s : Dr} {v : Int} : putD s.kvs (.inr "size") (.int v) = Dr.kvs { s with size := v } := by
  simp [putD, Dr.kvs, ofString_inj]
theorem Dr.p_place {s : Dr} {v : Int} : putD s.kvs (.inr "place") (.int v) = Dr.kvs { s with place := v } := by
  simp [putD, Dr.kvs, ofString_inj]
theorem Dr.p_turn {s : Dr} {v : Int} : putD s.kvs (.inr "turn") (.int v) = Dr.kvs { s with turn := v } := by
  simp [putD, Dr.kvs, ofString_inj]
theorem Dr.p_talk {s : Dr} {v : Int} : putD s.kvs (.inr "talk") (.int v) = Dr.kvs { s with talk := v } := by
  simp [putD, Dr.kvs, ofString_inj]
theorem Dr.len {s : Dr} : s.kvs.length < sizeLine := by show 9 < sizeLine; decide
theorem ok_law_taken (Z : Bl mg) {k : Nat} {f__law_taken : Addr} {fd__law_taken : FuncData} (F : Fun K "_law_taken" "_law_taken" s__law_taken f__law_taken fd__law_taken) : FnM P w K mg base CX0 (k + 1) f__law_taken fd__law_taken ["_law_s", "_law_most"] (spTaken K) := by
  refine fn_m F sc__law_taken (fun ds m Q E h => ?_) (fun cdv A outer s H ds m Q E E' hr h => ?_)
  · obtain ⟨a, k, s, rfl, _⟩ := h; rfl
  have nd := sc__law_taken.nd
  obtain ⟨a, n, s, rfl, I, h0, h1, q⟩ := h
  refine ⟨_, (mss_cons (ms_if (mt_cmp mo_gt (mx_ix (mi_sub hr) (mv 0) mx_str) mx_int (nomark _)) (mss_cons (ms_set (i := 2) nd rfl (.inl rfl) (mx_op mo_mod (mx_ix (mi_sub hr) (mv 0) mx_str) (mv 1)))
    (mss_cons (ms_dput (hu1 hr) (mv 0) mx_str (mx_op mo_div (mx_ix (mi_sub hr) (mv 0) mx_str) (mv 1)))
    (mss_one (ms_ret (mv 2))))) mss_nil)
    (mss_cons (ms_dput (hu1 hr) (mv 0) mx_str (mx_op mo_plus (mx_ix (mi_sub hr) (mv 0) mx_str) mx_int))
    (mss_cons (ms_if (mt_cmp mo_le (mx_ix (mi_sub hr) (mv 0) mx_str) (mx_callB mc_lenS Z.b_len (ma_cons (mx_ix (mi_sub hr) (mv 0) mx_str) ma_nil)) (nomark _)) (mss_cons (ms_set (i := 3) nd rfl (.inl rfl) (mx_ix mi_subS (mx_ix (mi_sub hr) (mv 0) mx_str) (mx_op mo_sub (mx_ix (mi_sub hr) (mv 0) mx_str) mx_int)))
    (mss_cons (ms_dput (hu1 hr) (mv 0) mx_str (mx_op mo_times (mx_op mo_div (mv 3) (mv 1)) (mx_callTy mc_int1 Z.b_int (ma_cons (mx_cmp mo_ge (mv 3) (mx_op mo_pow mx_int mx_int) (nomark _)) ma_nil))))
    (mss_one (ms_ret (mx_op mo_mod (mv 3) (mv 1)))))) mss_nil)
    (mss_cons (ms_dput (hu1 hr) (mv 0) mx_str (mx_op mo_mod (mx_op mo_times (mx_ix (mi_sub hr) (mv 0) mx_str) mx_int) mx_int))
    (mss_one (ms_ret (mx_if (mt_cmp mo_gt (mv 1) (mx_op mo_pow mx_int mx_int) (nomark _)) (mx_op mo_mod (mx_op mo_pow (mx_op mo_div (mx_ix (mi_sub hr) (mv 0) mx_str) mx_int) mx_int) (mv 1)) (mx_op mo_mod (mx_op mo_div (mx_ix (mi_sub hr) (mv 0) mx_str) mx_int) (mv 1))))))))), ?_⟩
  have e0 : m a = some (.dK s.kvs) := I.e
  have re : rdM m a = some (.dK s.kvs) := I.rd
  obtain ⟨ns, hL, hz⟩ := I.sc
  have fin : ∀ (r at' rest' mixed' : Int), 0 ≤ r → r < n → 0 ≤ at' → 0 ≤ rest' → 0 ≤ mixed' → mixed' < 2147483647 → Q (.int r) (mput m a (.dK (Dr.kvs { s with at_ := at', rest := rest', mixed := mixed' }))) := fun r at' rest' mixed' h2 h3 h4 h5 h6 h7 =>
    q r _ h2 h3 ⟨rfl, rfl, rfl, rfl, rfl, rfl⟩ (I.put rfl h4 h5 h6 h7)
  have hat := I.at0
  have hrest := I.rest0
  have hm0 := I.mix0
  have hm1 := I.mix1
  have hlog := small_log h0 h1
  wtm_at "go"
  refine i_ite (fun c => ?_) (fun c => ?_)
  · have c' : 0 < s.rest := of_decide_eq_true c
    wtm_at "go"
    refine i_putK e0 Dr.len ?_
    rw [Dr.p_rest]
    wtm_at "go"
    refine RtM.mk (fin _ _ _ _ (Int.emod_nonneg _ (by wtm_at "om")) (Int.emod_lt_of_pos _ h0) hat (Int.ediv_nonneg hrest (by wtm_at "om")) hm0 hm1)
  · wtm_at "go"
    refine i_putK e0 Dr.len ?_
    rw [Dr.p_at]
    wtm_at "go"
    have hL1 : LsK K (mput m a (.dK (Dr.kvs { s with at_ := s.at_ + 1 }))) s.sc ns := hL.putD e0 fun ds z => by rw [re] at z; cases z
    refine i_lenS' hL1 ?_
    wtm_at "go"
    refine i_ite (fun c => ?_) (fun c => ?_)
    · have c' : s.at_ + 1 ≤ ns.length := of_decide_eq_true c
      wtm_at "go"
      obtain ⟨v, hv⟩ := atI_some (xs := ns) (i := s.at_ + 1 - 1) (by wtm_at "om") (by wtm_at "om")
      refine i_subS' hL1 hv ?_
      wtm_at "go"
      refine i_putK mput_same Dr.len ?_
      rw [Dr.p_rest, mput_mput]
      wtm_at "go"
      refine RtM.mk (fin _ _ _ _ (Int.emod_nonneg _ (by wtm_at "om")) (Int.emod_lt_of_pos _ h0) (by wtm_at "om") ?_ hm0 hm1)
      by_cases cv : 10 ^ (18 : Int).toNat ≤ v
      · rw [decide_eq_true cv]
        have : 0 ≤ v := Int.le_trans (by decide) cv
        have := Int.ediv_nonneg this (show 0 ≤ n by omega)
        simpa using this
      · rw [decide_eq_false cv]; simp
    · wtm_at "go"
      refine i_putK mput_same Dr.len ?_
      rw [Dr.p_mixed, mput_mput]
      wtm_at "go"
      have g0 : 0 ≤ s.mixed * 48271 % 2147483647 := Int.emod_nonneg _ (by decide)
      have g1 : s.mixed * 48271 % 2147483647 < 2147483647 := Int.emod_lt_of_pos _ (by decide)
      refine i_ite (fun c => ?_) (fun c => ?_)
      · wtm_at "go"
        refine RtM.mk (fin _ _ _ _ (Int.emod_nonneg _ (by wtm_at "om")) (Int.emod_lt_of_pos _ h0) (by wtm_at "om") hrest g0 g1)
      · wtm_at "go"
        refine RtM.mk (fin _ _ _ _ (Int.emod_nonneg _ (by wtm_at "om")) (Int.emod_lt_of_pos _ h0) (by wtm_at "om") hrest g0 g1)
theorem DrI.put' {K : PySem.W.Frag} {m : Mem} {a : Addr} {s s' s2 : Dr} (h : DrI K (mput m a s.o) a s') (e : mput (mput m a s.o) a s2.o = mput m a s2.o := mput_mput) : True := trivial
/-- what a drawing that makes nothing new leaves: only the draw goes on -/
def DrQ (K : PySem.W.Frag) (a : Addr) (s : Dr) (m : Mem) (C : D → Prop) (Q : KM) : Prop := ∀ d s', C d → s.nx s' → DrI K (mput m a s'.o) a s' → Q d (mput m a s'.o)
theorem spTaken.mk {K : PySem.W.Frag} {m : Mem} {Q : KM} {Em : XM} {a : Addr} {k : Int} {s : Dr} (I : DrI K m a s) (h0 : 0 < k) (h1 : k ≤ 10 ^ 13)
    (q : ∀ r s', 0 ≤ r → r < k → s.nx s' → DrI K (mput m a s'.o) a s' → Q (.int r) (mput m a s'.o)) : spTaken K [.ref a, .int k] m Q Em := ⟨a, k, s, rfl, I, h0, h1, q⟩
def spNumber (K : PySem.W.Frag) : SpM := fun ds m Q _ => ∃ (a : Addr) (s : Dr), ds = [.ref a] ∧ DrI K m a s ∧
  ∀ (v : Int) s', v.natAbs < 10 ^ 12 → s.nx s' → DrI K (mput m a s'.o) a s' → Q (.int v) (mput m a s'.o)
abbrev s__law_number : Stmt := topS 28
theorem sc__law_number : FnScope ["_law_s"] ["_law_s"] (defScope s__law_number) := ⟨rfl, rfl, rfl, by decide +kernel, rfl, by decide +kernel, by decide +kernel⟩
theorem ok_law_number {k : Nat} {f__law_taken : Addr} {fd__law_taken : FuncData} (D__law_taken : Df K mg "_law_taken" f__law_taken fd__law_taken ["_law_s", "_law_most"]) (G__law_taken : FnM P w K mg base CX0 (k) f__law_taken fd__law_taken ["_law_s", "_law_most"] (spTaken K)) {f__law_number : Addr} {fd__law_number : FuncData} (F : Fun K "_law_number" "_law_number" s__law_number f__law_number fd__law_number) : FnM P w K mg base CX0 (k + 1) f__law_number fd__law_number ["_law_s"] (spNumber K) := by
  refine fn_m F sc__law_number (fun ds m Q E h => ?_) (fun cdv A outer s H ds m Q E E' hr h => ?_)
  · obtain ⟨a, s, rfl, _⟩ := h; rfl
  have nd := sc__law_number.nd
  obtain ⟨a, s, rfl, I, q⟩ := h
  refine ⟨_, (mss_cons (ms_if (mt_cmp (mo_eqq hr) (mx_call (Em := noX) G__law_taken hr D__law_taken.m D__law_taken.k D__law_taken.b pass0M (ma_cons (mv 0) (ma_cons mx_int ma_nil))) mx_int (nomark _)) (mss_one (ms_ret (mx_op mo_plus (mx_op mo_sub (mx_call (Em := noX) G__law_taken hr D__law_taken.m D__law_taken.k D__law_taken.b pass0M (ma_cons (mv 0) (ma_cons (mx_op mo_sub (mx_op mo_times mx_int (mx_op mo_pow mx_int mx_int)) mx_int) ma_nil))) (mx_op mo_pow mx_int mx_int)) mx_int))) mss_nil)
    (mss_one (ms_ret (mx_op mo_sub (mx_call (Em := noX) G__law_taken hr D__law_taken.m D__law_taken.k D__law_taken.b pass0M (ma_cons (mv 0) (ma_cons mx_int ma_nil))) mx_int)))), ?_⟩
  wtm_at "go"
  refine spTaken.mk I (by decide) (by decide) fun r s1 h0 h1 n1 I1 => ?_
  wtm_at "go"
  refine i_ite (fun c => ?_) (fun c => ?_)
  · wtm_at "go"
    refine spTaken.mk I1 (by decide) (by decide) fun r s2 h0 h1 n2 I2 => ?_
    rw [mput_mput] at I2 ⊢
    wtm_at "go"
    have e12 : (10 : Int) ^ Int.toNat 12 = 1000000000000 := rfl
    exact RtM.mk (q _ _ (by omega) (Dr.nx_trans n1 n2) I2)
  · wtm_at "go"
    refine spTaken.mk I1 (by decide) (by decide) fun r s2 h0 h1 n2 I2 => ?_
    rw [mput_mput] at I2 ⊢
    wtm_at "go"
    exact RtM.mk (q _ _ (by omega) (Dr.nx_trans n1 n2) I2)

theorem Sub.put {m m' : Mem} {a : Addr} {o : O} (h : Sub m m') : Sub (mput m a o) (mput m' a o) := fun b u e => by
  by_cases c : b = a
  · subst c; rw [mput_same] at e ⊢; exact e
  · rw [mput_ne c] at e ⊢; exact h b u e
theorem Sub.new {m m' : Mem} {p : Addr} {o : O} (h : Sub m m') (hp : m' p = none) : Sub m (mput m' p o) := fun b u e => mput_new hp (h b u e)
theorem atI_mem {α : Type} {xs : List α} {i : Int} {x : α} (h : atI xs i = some x) : x ∈ xs := by
  unfold atI at h
  cases q : ixN xs.length i with
  | none => rw [q] at h; cases h
  | some j =>
    rw [q] at h
    exact List.mem_of_getElem? h
theorem RtM.sub {Q : KM} {d : D} {m m' : Mem} (s : Sub m m') (h : Q d m) : RtM Q d m' := ⟨m, s, h⟩
/-- the names that the draw holds -/
def DrN (m : Mem) (s : Dr) (nms : List Str) : Prop := rdM m s.nm = some (.lst (nms.map D.str)) ∧ nms.length ≤ 20
theorem DrN.put {K : PySem.W.Frag} {m : Mem} {a : Addr} {s s' : Dr} {nms : List Str} (h : DrN m s nms) (I : DrI K m a s) (n : s.nx s') : DrN (mput m a s'.o) s' nms := by
  refine ⟨?_, h.2⟩
  rw [n.2.1]
  have h1 := h.1
  have ne : s.nm ≠ a := by
    intro e
    rw [e, I.rd] at h1; cases h1
  unfold rdM at h1 ⊢
  rw [mput_ne ne]; exact h1
theorem rdM_new {m : Mem} {p a : Addr} {o u : O} (hp : m p = none) (h : rdM m a = some u) : rdM (mput m p o) a = some u := by
  unfold rdM at h ⊢
  rw [mput_ne]; exact h
  rintro rfl; rw [hp] at h; cases h
theorem rdM_off {m : Mem} {p a : Addr} {o u : O} (hp : a ≠ p) (h : rdM m a = some u) : rdM (mput m p o) a = some u := by
  unfold rdM at h ⊢
  rw [mput_ne hp]; exact h
theorem DrN.new {m : Mem} {p : Addr} {o : O} {s : Dr} {nms : List Str} (h : DrN m s nms) (hp : m p = none) : DrN (mput m p o) s nms := ⟨rdM_new hp h.1, h.2⟩
/-- told of names -/
def Told.of (nms : List Str) : Told → Prop
  | .num i => i.natAbs < 10 ^ 12
  | .read x => x ∈ nms
  | .bin _ a b => a.of nms ∧ b.of nms
def spTold (K : PySem.W.Frag) (n : Nat) : SpM := fun ds m Q _ => ∃ (a : Addr) (s : Dr) (nms : List Str) (dp : Nat), ds = [.ref a, .int dp] ∧ dp < n ∧ DrI K m a s ∧ DrN m s nms ∧
  ∀ (t : Told) s', t.dp ≤ dp → t.of nms → s.nx s' → DrI K (mput m a s'.o) a s' → Q t.d (mput m a s'.o)
abbrev s__law_told : Stmt := topS 29
theorem sc__law_told : FnScope ["_law_s", "_law_deep", "_law_way", "_law_one"] ["_law_s", "_law_deep"] (defScope s__law_told) := ⟨rfl, rfl, rfl, by decide +kernel, rfl, by decide +kernel, by decide +kernel⟩
theorem ok_law_told {k n : Nat} (Z : Bl mg) {f__law_taken : Addr} {fd__law_taken : FuncData} (D__law_taken : Df K mg "_law_taken" f__law_taken fd__law_taken ["_law_s", "_law_most"]) (G__law_taken : FnM P w K mg base CX0 (k) f__law_taken fd__law_taken ["_law_s", "_law_most"] (spTaken K)) {f__law_number : Addr} {fd__law_number : FuncData} (D__law_number : Df K mg "_law_number" f__law_number fd__law_number ["_law_s"]) (G__law_number : FnM P w K mg base CX0 (k) f__law_number fd__law_number ["_law_s"] (spNumber K)) {f__law_told : Addr} {fd__law_told : FuncData} (D__law_told : Df K mg "_law_told" f__law_told fd__law_told ["_law_s", "_law_deep"]) (G__law_told : FnM P w K mg base CX0 (k) f__law_told fd__law_told ["_law_s", "_law_deep"] (spTold K n)) (F : Fun K "_law_told" "_law_told" s__law_told f__law_told fd__law_told) : FnM P w K mg base CX0 (k + 1) f__law_told fd__law_told ["_law_s", "_law_deep"] (spTold K (n + 1)) := by
  refine fn_m F sc__law_told (fun ds m Q E h => ?_) (fun cdv A outer s H ds m Q E E' hr h => ?_)
  · obtain ⟨a, s, nms, dp, rfl, _⟩ := h; rfl
  have nd := sc__law_told.nd
  obtain ⟨a, s, nms, dp, rfl, hd, I, hN, q⟩ := h
  refine ⟨_, (mss_cons (ms_set (i := 2) nd rfl (.inl rfl) (mx_call (Em := noX) G__law_taken hr D__law_taken.m D__law_taken.k D__law_taken.b pass0M (ma_cons (mv 0) (ma_cons mx_int ma_nil))))
    (mss_cons (ms_if (mw_pt (mw_or (mt_cmp mo_lt (mv 2) mx_int (nomark _)) (mw_or1 (mt_cmp (mo_eqq hr) (mv 1) mx_int (nomark _))))) (mss_cons (ms_if (mw_pt (mw_and (mt_cmp (mo_eqq hr) (mx_op mo_mod (mv 2) mx_int) mx_int (nomark _)) (mw_and1 (mt_cmp mo_gt (mx_callB mc_len1 Z.b_len (ma_cons (mx_ix (mi_sub hr) (mv 0) mx_str) ma_nil)) mx_int (nomark _))))) (mss_one (ms_ret (mx_tup (ma_cons mx_str (ma_cons (mx_ix (mi_sub hr) (mx_ix (mi_sub hr) (mv 0) mx_str) (mx_call (Em := noX) G__law_taken hr D__law_taken.m D__law_taken.k D__law_taken.b pass0M (ma_cons (mv 0) (ma_cons (mx_callB mc_len1 Z.b_len (ma_cons (mx_ix (mi_sub hr) (mv 0) mx_str) ma_nil)) ma_nil)))) ma_nil))))) mss_nil)
    (mss_one (ms_ret (mx_tup (ma_cons mx_str (ma_cons (mx_call (Em := noX) G__law_number hr D__law_number.m D__law_number.k D__law_number.b pass0M (ma_cons (mv 0) ma_nil)) ma_nil)))))) mss_nil)
    (mss_cons (ms_set (i := 3) nd rfl (.inl rfl) (mx_call (Em := noX) G__law_told hr D__law_told.m D__law_told.k D__law_told.b pass0M (ma_cons (mv 0) (ma_cons (mx_op mo_sub (mv 1) mx_int) ma_nil))))
    (mss_one (ms_ret (mx_tup (ma_cons (mx_ix (mi_sub hr) (mx_lst (ma_cons mx_str (ma_cons mx_str (ma_cons mx_str (ma_cons mx_str (ma_cons mx_str ma_nil)))))) (mx_op mo_sub (mv 2) mx_int)) (ma_cons (mv 3) (ma_cons (mx_call (Em := noX) G__law_told hr D__law_told.m D__law_told.k D__law_told.b pass0M (ma_cons (mv 0) (ma_cons (mx_op mo_sub (mv 1) mx_int) ma_nil))) ma_nil))))))))), ?_⟩
  wtm_at "go"
  refine spTaken.mk I (by decide) (by decide) fun way s1 h0 h1 n1 I1 => ?_
  have N1 := hN.put I n1
  have N1l := N1.1
  have e2 : ∀ s1 s' : Dr, mput (mput m a s1.o) a s'.o = mput m a s'.o := fun s1 s' => mput_mput
  have e1 : ∀ s' : Dr, mput (mput m a s1.o) a s'.o = mput m a s'.o := fun s' => mput_mput
  have I1e := I1.e
  have I1r := I1.rd
  wtm_at "go"
  refine i_ite (fun c => ?_) (fun c => ?_)
  rotate_left
  wtm_at "go"
  refine i_ite (fun c' => ?_) (fun c' => ?_)
  rotate_left
  · have c1 : ¬ way < 3 := of_decide_eq_false c
    have c2 : ¬ (dp : Int) = 0 := of_decide_eq_false c'
    have ed : (dp : Int) - 1 = ((dp - 1 : Nat) : Int) := by omega
    wtm_at "go"
    rw [ed]
    refine ⟨a, s1, nms, dp - 1, rfl, by omega, I1, N1, fun t1 s2 d1 o1 n2 I2 => ?_⟩
    rw [e1] at I2 ⊢
    have N2 := N1.put I1 n2
    rw [e1] at N2
    wtm_at "go"
    intro p hp
    obtain ⟨j, hj⟩ : ∃ j : Jn, atI [D.str (Str.ofString "plus"), .str (Str.ofString "minus"), .str (Str.ofString "times"), .str (Str.ofString "most"), .str (Str.ofString "least")] (way - 3) = some (.str j.w) := by
      have : way = 3 ∨ way = 4 ∨ way = 5 ∨ way = 6 ∨ way = 7 := by omega
      rcases this with rfl | rfl | rfl | rfl | rfl
      · exact ⟨.plus, rfl⟩
      · exact ⟨.minus, rfl⟩
      · exact ⟨.times, rfl⟩
      · exact ⟨.most, rfl⟩
      · exact ⟨.least, rfl⟩
    wtm_at "go"
    refine i_subL (rd_L mput_same) hj ?_
    wtm_at "go"
    rw [ed]
    refine ⟨a, s2, nms, dp - 1, rfl, by omega, I2.new hp, N2.new hp, fun t2 s3 d2 o2 n3 I3 => ?_⟩
    have I3' : DrI K (mput m a s3.o) a s3 := by
      have := DrI.put (s' := s3) I2 n3.1 I3.at0 I3.rest0 I3.mix0 I3.mix1
      rw [e2] at this; exact this
    wtm_at "go"
    refine RtM.sub ?_ (q (.bin j t1 t2) s3 ?_ ⟨o1, o2⟩ (Dr.nx_trans n1 (Dr.nx_trans n2 n3)) I3')
    · rw [← e2 s2 s3]; exact Sub.put (Sub.refl.new hp)
    · show max t1.dp t2.dp + 1 ≤ dp
      omega
  all_goals (
    wtm_at "go"
    refine i_ite (fun c3 => ?_) (fun c3 => ?_)
    · wtm_at "go"
      refine i_ite (fun c4 => ?_) (fun c4 => ?_)
      · have c5 : 0 < ((nms.map D.str).length : Int) := of_decide_eq_true c4
        have c6 := hN.2
        wtm_at "go"
        refine spTaken.mk I1 c5 (by rw [List.length_map]; omega) fun i s2 h2 h3 n2 I2 => ?_
        rw [e1] at I2 ⊢
        have N2 := N1.put I1 n2
        rw [e1] at N2
        obtain ⟨x, hx⟩ := atI_some (xs := nms.map D.str) h2 h3
        have hx' := hx
        obtain ⟨y, hy, rfl⟩ := List.mem_map.mp (atI_mem hx')
        have nme := n2.2.1
        wtm_at "go"
        refine i_subL (by rw [← nme]; exact N2.1) hx ?_
        wtm_at "go"
        exact RtM.mk (q (.read y) s2 (Nat.zero_le _) hy (Dr.nx_trans n1 n2) I2)
      · wtm_at "go"
        refine ⟨a, s1, rfl, I1, fun v s2 hv n2 I2 => ?_⟩
        rw [e1] at I2 ⊢
        wtm_at "go"
        exact RtM.mk (q (.num v) s2 (Nat.zero_le _) hv (Dr.nx_trans n1 n2) I2)
    · wtm_at "go"
      refine ⟨a, s1, rfl, I1, fun v s2 hv n2 I2 => ?_⟩
      rw [e1] at I2 ⊢
      wtm_at "go"
      exact RtM.mk (q (.num v) s2 (Nat.zero_le _) hv (Dr.nx_trans n1 n2) I2))

/-- the draw as it begins -/
structure DrB (s : Dr) : Prop where
  z0 : 1 ≤ s.size
  z1 : s.size ≤ 8
  p0 : 0 ≤ s.place
  p1 : s.place < s.size
  t0 : 0 ≤ s.turn
  t1 : s.turn < 26
  k : s.talk = 0 ∨ s.talk = 1
theorem DrB.nx {s s' : Dr} (b : DrB s) (n : s.nx s') : DrB s' := by
  obtain ⟨_, _, h1, h2, h3, h4⟩ := n
  obtain ⟨b1, b2, b3, b4, b5, b6, b7⟩ := b
  exact ⟨by omega, by omega, by omega, by omega, by omega, by omega, by omega⟩
def spBegun (K : PySem.W.Frag) : SpM := fun ds m Q _ => ∃ (c : Addr) (ns : List Int), ds = [.ref c] ∧ LsK K m c ns ∧ ns.length ≤ 63 ∧
  ∀ a s m', m' a = some s.o → m a = none → Sub m m' → DrI K m' a s → DrB s → DrN m' s [] → s.nm ≠ a → Q (.ref a) m'
abbrev s__law_begun : Stmt := topS 25
theorem sc__law_begun : FnScope ["_law_script", "_law_mixed", "_law_cell", "_law_s"] ["_law_script"] (defScope s__law_begun) := ⟨rfl, rfl, rfl, by decide +kernel, rfl, by decide +kernel, by decide +kernel⟩
theorem LsK.sub {K : PySem.W.Frag} {m m' : Mem} {a : Addr} {ns : List Int} (h : LsK K m a ns) (s : Sub m m') : LsK K m' a ns := by
  rcases h with h | h
  · refine .inl ?_
    unfold rdM at h ⊢
    cases e : m a with
    | none => rw [e] at h; cases h
    | some o => rw [e] at h; rw [s _ _ e]; exact h
  · exact .inr h
theorem Dr.put_names {s : Dr} {x : Addr} : putD (List.take 7 s.kvs) (.inr "names") (.ref x) = List.take 8 (Dr.kvs { s with nm := x }) := by
  simp [putD, Dr.kvs, ofString_inj]
theorem Dr.put_mixed {s : Dr} {x : Int} : putD (List.take 8 s.kvs) (.inr "mixed") (.int x) = Dr.kvs { s with mixed := x } := by
  simp [putD, Dr.kvs, ofString_inj]
theorem ok_law_begun {k : Nat} (Z : Bl mg) {f__law_taken : Addr} {fd__law_taken : FuncData} (D__law_taken : Df K mg "_law_taken" f__law_taken fd__law_taken ["_law_s", "_law_most"]) (G__law_taken : FnM P w K mg base CX0 (k) f__law_taken fd__law_taken ["_law_s", "_law_most"] (spTaken K)) (F : Fun K "_law_begun" "_law_begun" s__law_begun f__law_begun fd__law_begun) : FnM P w K mg base CX0 (k + 1) f__law_begun fd__law_begun ["_law_script"] (spBegun K) := by
  refine fn_m F sc__law_begun (fun ds m Q E h => ?_) (fun cdv A outer s H ds m Q E E' hr h => ?_)
  · obtain ⟨a, s, rfl, _⟩ := h; rfl
  have nd := sc__law_begun.nd
  obtain ⟨c, ns, rfl, hL, hl, q⟩ := h
  refine ⟨_, (mss_cons (ms_set (i := 1) nd rfl (.inl rfl) mx_int)
    (mss_cons (ms_for PassesOwn.never rfl (mi_listS (mv 0)) (mg_name (i := 2) nd rfl (.inl rfl)) (mss_one (ms_set (i := 1) nd rfl (.inl rfl) (mx_op mo_mod (mx_op mo_plus (mx_op mo_plus (mx_op mo_times (mv 1) mx_int) (mx_op mo_times (mv 2) mx_int)) mx_int) mx_int))))
    (mss_cons (ms_set (i := 3) nd rfl (.inl rfl) (mx_disp (mps_cons mx_str (mv 0) (mps_cons mx_str mx_int (mps_cons mx_str mx_int (mps_cons mx_str mx_int (mps_cons mx_str mx_int (mps_cons mx_str mx_int (mps_cons mx_str mx_int mps_nil)))))))))
    (mss_cons (ms_dput (hu1 hr) (mv 3) mx_str (mx_lst ma_nil))
    (mss_cons (ms_dput (hu1 hr) (mv 3) mx_str (mx_op mo_times (mv 1) (mx_callTy mc_int1 Z.b_int (ma_cons (mx_cmp mo_gt (mx_callB mc_lenS Z.b_len (ma_cons (mv 0) ma_nil)) mx_int (nomark _)) ma_nil))))
    (mss_cons (ms_dput (hu1 hr) (mv 3) mx_str (mx_op mo_plus mx_int (mx_call (Em := noX) G__law_taken hr D__law_taken.m D__law_taken.k D__law_taken.b pass0M (ma_cons (mv 3) (ma_cons mx_int ma_nil)))))
    (mss_cons (ms_dput (hu1 hr) (mv 3) mx_str (mx_call (Em := noX) G__law_taken hr D__law_taken.m D__law_taken.k D__law_taken.b pass0M (ma_cons (mv 3) (ma_cons (mx_ix (mi_sub hr) (mv 3) mx_str) ma_nil))))
    (mss_cons (ms_dput (hu1 hr) (mv 3) mx_str (mx_call (Em := noX) G__law_taken hr D__law_taken.m D__law_taken.k D__law_taken.b pass0M (ma_cons (mv 3) (ma_cons mx_int ma_nil))))
    (mss_cons (ms_dput (hu1 hr) (mv 3) mx_str (mx_callTy mc_int1 Z.b_int (ma_cons (mx_cmp (mo_eqq hr) (mx_call (Em := noX) G__law_taken hr D__law_taken.m D__law_taken.k D__law_taken.b pass0M (ma_cons (mv 3) (ma_cons mx_int ma_nil))) mx_int (nomark _)) ma_nil)))
    (mss_one (ms_ret (mv 3)))))))))))), ?_⟩
  wtm_at "go"
  refine ⟨ns, hL, ?_⟩
  refine forC_ind (fun r ρ m' => m' = m ∧ ∃ (x : Int) (e : Option D), 0 ≤ x ∧ x < 2147483647 ∧ ρ = [some (.ref c), some (.int x), e, none] ∧ ∀ d ∈ r, ∃ i, d = .int i) ⟨rfl, 0, none, by decide, by decide, rfl, fun d hd => ?_⟩ ?_ ?_
  · obtain ⟨i, _, rfl⟩ := List.mem_map.mp hd; exact ⟨i, rfl⟩
  · rintro ρ m' ⟨rfl, x, e, x0, x1, rfl, -⟩
    refine ⟨hL, ?_⟩
    wtm_at "go"
    rintro a ha
    have eD : mergeD [] (List.map keyP [(.str (Str.ofString "numbers"), .ref c), (.str (Str.ofString "at"), .int 0), (.str (Str.ofString "size"), .int 1), (.str (Str.ofString "place"), .int 0), (.str (Str.ofString "turn"), .int 0), (.str (Str.ofString "talk"), .int 0), (.str (Str.ofString "rest"), .int 0)]) = List.take 7 (Dr.kvs { sc := c, nm := 0, at_ := 0, size := 1, place := 0, turn := 0, talk := 0, rest := 0, mixed := 0 }) := by
      simp [mergeD, keyP, putD, Dr.kvs, ofString_inj]
    rw [eD]
    wtm_at "go"
    intro p hp
    wtm_at "go"
    refine i_putK (mput_new hp mput_same) (by show 7 < sizeLine; decide) ?_
    rw [Dr.put_names]
    wtm_at "go"
    have ne : p ≠ a := by rintro rfl; rw [mput_same] at hp; cases hp
    have hL2 : ∀ o u o2, LsK K (mput (mput (mput m' a o) p u) a o2) c ns := fun o u o2 => by
      have h3 : Sub m' (mput (mput (mput m' a o) p u) a o2) := by
        intro b v e
        have n1 : b ≠ a := by rintro rfl; rw [ha] at e; cases e
        have n2 : b ≠ p := by
          rintro rfl
          rw [mput_ne ne] at hp; rw [hp] at e; cases e
        rw [mput_ne n1, mput_ne n2, mput_ne n1]; exact e
      exact hL.sub h3
    refine i_lenS' (hL2 _ _ _) ?_
    wtm_at "go"
    refine i_putK mput_same (by show 8 < sizeLine; decide) ?_
    rw [Dr.put_mixed, mput_mput]
    generalize hs0 : ({ sc := c, nm := p, at_ := 0, size := 1, place := 0, turn := 0, talk := 0, rest := 0, mixed := x * (if decide (2 < (ns.length : Int)) = true then 1 else 0) } : Dr) = s0
    generalize hM : mput (mput (mput m' a _) p (O.lst [])) a (.dK s0.kvs) = M
    have e0 : M a = some s0.o := by rw [← hM]; exact mput_same
    have I0 : DrI K M a s0 := by
      refine ⟨e0, ⟨ns, by subst hs0; rw [← hM]; exact hL2 _ _ _, hl⟩, by subst hs0; exact Int.le_refl 0, by subst hs0; exact Int.le_refl 0, ?_, ?_⟩
      · subst hs0; show 0 ≤ x * _; split <;> omega
      · subst hs0; show x * _ < _; split <;> omega
    have N0 : DrN M s0 [] := by
      refine ⟨?_, Nat.zero_le _⟩
      have : M p = some (.lst []) := by rw [← hM, mput_ne ne, mput_same]
      subst hs0
      exact rd_L this
    have S0 : Sub m' M := by
      intro b v e
      have n1 : b ≠ a := by rintro rfl; rw [ha] at e; cases e
      have n2 : b ≠ p := by
        rintro rfl
        rw [mput_ne ne] at hp; rw [hp] at e; cases e
      rw [← hM, mput_ne n1, mput_ne n2, mput_ne n1]; exact e
    have k0 : s0.nm ≠ a := by subst hs0; exact ne
    have e1 : ∀ s' s2 : Dr, mput (mput M a s'.o) a s2.o = mput M a s2.o := fun _ _ => mput_mput
    clear hM hs0 eD hL2
    have I0e := I0.e
    have I0r := I0.rd
    wtm_at "go"
    refine spTaken.mk I0 (by decide) (by decide) fun v1 s1 h1 g1 n1 I1 => ?_
    simp only [e1] at I1 ⊢
    have I1e := I1.e
    have I1r := I1.rd
    wtm_at "go"
    refine i_putK I1.e Dr.len ?_
    rw [Dr.p_size]
    have J1 := I1.put (s' := { s1 with size := 1 + v1 }) rfl I1.at0 I1.rest0 I1.mix0 I1.mix1
    have E1 := e1 s1 { s1 with size := 1 + v1 }
    rw [E1] at J1
    rw [show mput (mput M a s1.o) a (.dK (Dr.kvs { s1 with size := 1 + v1 })) = _ from E1]
    have J1e := J1.e
    have J1r := J1.rd
    wtm_at "go"
    refine spTaken.mk J1 (show 0 < 1 + v1 by omega) (show 1 + v1 ≤ _ by omega) fun v2 s2 h2 g2 n2 I2 => ?_
    simp only [e1] at I2 ⊢
    have I2e := I2.e
    have I2r := I2.rd
    wtm_at "go"
    refine i_putK I2.e Dr.len ?_
    rw [Dr.p_place]
    have J2 := I2.put (s' := { s2 with place := v2 }) rfl I2.at0 I2.rest0 I2.mix0 I2.mix1
    have E2 := e1 s2 { s2 with place := v2 }
    rw [E2] at J2
    rw [show mput (mput M a s2.o) a (.dK (Dr.kvs { s2 with place := v2 })) = _ from E2]
    have J2e := J2.e
    have J2r := J2.rd
    wtm_at "go"
    refine spTaken.mk J2 (by decide) (by decide) fun v3 s3 h3 g3 n3 I3 => ?_
    simp only [e1] at I3 ⊢
    have I3e := I3.e
    have I3r := I3.rd
    wtm_at "go"
    refine i_putK I3.e Dr.len ?_
    rw [Dr.p_turn]
    have J3 := I3.put (s' := { s3 with turn := v3 }) rfl I3.at0 I3.rest0 I3.mix0 I3.mix1
    have E3 := e1 s3 { s3 with turn := v3 }
    rw [E3] at J3
    rw [show mput (mput M a s3.o) a (.dK (Dr.kvs { s3 with turn := v3 })) = _ from E3]
    have J3e := J3.e
    have J3r := J3.rd
    wtm_at "go"
    refine spTaken.mk J3 (by decide) (by decide) fun v4 s4 h4 g4 n4 I4 => ?_
    simp only [e1] at I4 ⊢
    have I4e := I4.e
    have I4r := I4.rd
    wtm_at "go"
    refine i_putK I4.e Dr.len ?_
    rw [Dr.p_talk]
    have J4 := I4.put (s' := { s4 with talk := (if decide (v4 = 8) = true then 1 else 0) }) rfl I4.at0 I4.rest0 I4.mix0 I4.mix1
    have E4 := e1 s4 { s4 with talk := (if decide (v4 = 8) = true then 1 else 0) }
    rw [E4] at J4
    rw [show mput (mput M a s4.o) a (.dK (Dr.kvs { s4 with talk := (if decide (v4 = 8) = true then 1 else 0) })) = _ from E4]
    have J4e := J4.e
    have J4r := J4.rd
    wtm_at "go"
    dsimp only at g2
    obtain ⟨a1, b1, c1, d1, t1, l1⟩ := n1
    obtain ⟨a2, b2, c2, d2, t2, l2⟩ := n2
    obtain ⟨a3, b3, c3, d3, t3, l3⟩ := n3
    obtain ⟨a4, b4, c4, d4, t4, l4⟩ := n4
    dsimp only at a1 b1 c1 d1 t1 l1 a2 b2 c2 d2 t2 l2 a3 b3 c3 d3 t3 l3 a4 b4 c4 d4 t4 l4
    have nmE : s4.nm = s0.nm := by rw [b4, b3, b2, b1]
    refine RtM.mk (q a _ _ J4e ha (fun b o e => ?_) J4 ⟨?_, ?_, ?_, ?_, ?_, ?_, ?_⟩ ⟨?_, Nat.zero_le _⟩ ?_)
    · rw [mput_ne]
      · exact S0 b o e
      · rintro rfl; rw [ha] at e; cases e
    · show 1 ≤ s4.size; omega
    · show s4.size ≤ 8; omega
    · show 0 ≤ s4.place; omega
    · show s4.place < s4.size; omega
    · show 0 ≤ s4.turn; omega
    · show s4.turn < 26; omega
    · show (if decide (v4 = 8) = true then (1 : Int) else 0) = 0 ∨ (if decide (v4 = 8) = true then (1 : Int) else 0) = 1
      split
      · exact .inr rfl
      · exact .inl rfl
    · show rdM _ s4.nm = _
      rw [nmE]
      exact rdM_off k0 N0.1
    · show s4.nm ≠ a
      rw [nmE]; exact k0
  · rintro d r ρ m' L hK ⟨rfl, x, e, x0, x1, rfl, hd⟩
    obtain ⟨i, rfl⟩ := hd _ (.head _)
    refine ⟨hL, ?_⟩
    wtm_at "go"
    exact hK _ _ ⟨rfl, _, _, Int.emod_nonneg _ (by decide), Int.emod_lt_of_pos _ (by decide), rfl, fun d h => hd d (.tail _ h)⟩

/-! ### words that are drawn -/
def talkWords : List Str := ["none", "give", "both", "turned", "later", "often", "if", "num", "read", "plus", "below", "all"]
def sgnOf (i : Int) : Str := ⟨#[(97 + i).toNat]⟩
def wordOf (s : Dr) (k : Int) : Str := if s.talk = 1 ∧ k < 12 then (talkWords[k.toNat]?).getD "" else Txt.mul "q" s.place ++ sgnOf ((k + s.turn) % 26) ++ Txt.mul "q" (s.size - s.place - 1)
def spWord (K : PySem.W.Frag) : SpM := fun ds m Q _ => ∃ (a : Addr) (s : Dr) (k : Int), ds = [.ref a, .int k] ∧ rdM m a = some s.o ∧ DrB s ∧ 0 ≤ k ∧ Q (.str (wordOf s k)) m
theorem len_q {n : Int} (h : 0 ≤ n) : (Txt.mul "q" n).length = n.toNat := by
  have := PyProof.Rows.len_mul "q" n
  rw [decide_eq_false (by omega)] at this
  have e : (Str.ofString "q").length = 1 := by decide +kernel
  rw [e] at this
  simp at this
  omega
theorem abc_at : ∀ i : Nat, i < 26 → atI (Str.ofString "abcdefghijklmnopqrstuvwxyz").cps.toList (i : Int) = some (97 + i) := by
  decide +kernel
abbrev s__law_word : Stmt := topS 27
theorem sc__law_word : FnScope ["_law_s", "_law_k", "_law_words", "_law_sign"] ["_law_s", "_law_k"] (defScope s__law_word) := ⟨rfl, rfl, rfl, by decide +kernel, rfl, by decide +kernel, by decide +kernel⟩
theorem ok_law_word {k : Nat} (Z : Bl mg) (F : Fun K "_law_word" "_law_word" s__law_word f__law_word fd__law_word) : FnM P w K mg base CX0 (k + 1) f__law_word fd__law_word ["_law_s", "_law_k"] (spWord K) := by
  refine fn_m F sc__law_word (fun ds m Q E h => ?_) (fun cdv A outer s H ds m Q E E' hr h => ?_)
  · obtain ⟨a, s, n, rfl, _⟩ := h; rfl
  have nd := sc__law_word.nd
  obtain ⟨a, s, n, rfl, hR, B, h0, q⟩ := h
  refine ⟨_, (mss_cons (ms_if (mw_pt (mw_and (mt_cmp (mo_eqq hr) (mx_ix (mi_sub hr) (mv 0) mx_str) mx_int (nomark _)) (mw_and1 (mt_cmp mo_lt (mv 1) mx_int (nomark _))))) (mss_cons (ms_set (i := 2) nd rfl (.inl rfl) (mx_lst (ma_cons mx_str (ma_cons mx_str (ma_cons mx_str (ma_cons mx_str (ma_cons mx_str (ma_cons mx_str (ma_cons mx_str (ma_cons mx_str (ma_cons mx_str (ma_cons mx_str (ma_cons mx_str (ma_cons mx_str ma_nil))))))))))))))
    (mss_one (ms_ret (mx_ix (mi_sub hr) (mv 2) (mv 1))))) mss_nil)
    (mss_cons (ms_set (i := 3) nd rfl (.inl rfl) (mx_ix (mi_sub hr) mx_str (mx_op mo_mod (mx_op mo_plus (mv 1) (mx_ix (mi_sub hr) (mv 0) mx_str)) mx_int)))
    (mss_one (ms_ret (mx_op mo_plus (mx_op mo_plus (mx_op mo_times mx_str (mx_ix (mi_sub hr) (mv 0) mx_str)) (mv 3)) (mx_op mo_times mx_str (mx_op mo_sub (mx_op mo_sub (mx_ix (mi_sub hr) (mv 0) mx_str) (mx_ix (mi_sub hr) (mv 0) mx_str)) mx_int))))))), ?_⟩
  have tail : s.talk ≠ 1 ∨ ¬ n < 12 → Q (.str (Txt.mul "q" s.place ++ sgnOf ((n + s.turn) % 26) ++ Txt.mul "q" (s.size - s.place - 1))) m := fun h => by
    have e : wordOf s n = _ := if_neg (fun z => by rcases h with h | h; exact h z.1; exact h z.2)
    rw [e] at q; exact q
  have hz := B.z1
  have hp0 := B.p0
  have hp1 := B.p1
  have ht0 := B.t0
  have ht1 := B.t1
  have lq : (Str.ofString "q").length = 1 := by decide +kernel
  have mq : ∀ j : Int, 0 ≤ j → j ≤ 8 → MulOk (Str.ofString "q") j := fun j j0 j1 => by
    refine ⟨?_, fun _ h _ => ?_, fun _ _ => ?_⟩
    · simp; omega
    · rw [lq] at *
      have : j = 2 ∨ j = 3 ∨ j = 4 ∨ j = 5 ∨ j = 6 ∨ j = 7 ∨ j = 8 ∨ j ≤ 1 := by omega
      rcases this with rfl | rfl | rfl | rfl | rfl | rfl | rfl | h2 <;> first | decide | (simp at h; omega)
    · rw [lq]
      have : j.toNat < 9 := by omega
      refine decide_eq_false (Nat.not_lt.mpr (sl ?_))
      omega
  have hc : atI (Str.ofString "abcdefghijklmnopqrstuvwxyz").cps.toList ((n + s.turn) % 26) = some (97 + (n + s.turn) % 26).toNat := by
    have h1 : 0 ≤ (n + s.turn) % 26 := Int.emod_nonneg _ (by decide)
    have h2 : (n + s.turn) % 26 < 26 := Int.emod_lt_of_pos _ (by decide)
    have := abc_at ((n + s.turn) % 26).toNat (by omega)
    rw [show (((n + s.turn) % 26).toNat : Int) = (n + s.turn) % 26 by omega] at this
    rw [this]
    congr 1
    omega
  wtm_at "go"
  refine i_ite (fun c => ?_) (fun c => ?_)
  · have c1 : s.talk = 1 := of_decide_eq_true c
    wtm_at "go"
    refine i_ite (fun c' => ?_) (fun c' => ?_)
    · have c2 : n < 12 := of_decide_eq_true c'
      wtm_at "go"
      intro p hp
      have hx : atI (talkWords.map D.str) n = some (.str (wordOf s n)) := by
        have e : wordOf s n = _ := if_pos ⟨c1, c2⟩
        rw [e]
        have : n = 0 ∨ n = 1 ∨ n = 2 ∨ n = 3 ∨ n = 4 ∨ n = 5 ∨ n = 6 ∨ n = 7 ∨ n = 8 ∨ n = 9 ∨ n = 10 ∨ n = 11 := by omega
        rcases this with rfl | rfl | rfl | rfl | rfl | rfl | rfl | rfl | rfl | rfl | rfl | rfl <;> rfl
      wtm_at "go"
      refine i_subL (rd_L mput_same) hx ?_
      exact RtM.sub (Sub.refl.new hp) q
    · have c2 : ¬ n < 12 := of_decide_eq_false c'
      have q' := tail (.inr c2)
      wtm_at "go"
      refine i_subS (by rw [show (Str.ofString "abcdefghijklmnopqrstuvwxyz").length = 26 by decide +kernel]; decide) hc ?_
      wtm_at "go"
      refine i_timesS (mq _ hp0 (by omega)) ?_
      wtm_at "go"
      refine i_plusS (sl ?_) ?_
      · rw [len_q hp0]; show _ + 1 ≤ _; omega
      wtm_at "go"
      refine i_timesS (mq _ (by omega) (by omega)) ?_
      wtm_at "go"
      refine i_plusS (sl ?_) ?_
      · rw [PySem.Str.length_append, len_q hp0, len_q (by omega)]; show _ + 1 + _ ≤ _; omega
      exact RtM.mk q'
  · have c2 : ¬ s.talk = 1 := of_decide_eq_false c
    have q' := tail (.inl c2)
    wtm_at "go"
    refine i_subS (by rw [show (Str.ofString "abcdefghijklmnopqrstuvwxyz").length = 26 by decide +kernel]; decide) hc ?_
    wtm_at "go"
    refine i_timesS (mq _ hp0 (by omega)) ?_
    wtm_at "go"
    refine i_plusS (sl ?_) ?_
    · rw [len_q hp0]; show _ + 1 ≤ _; omega
    wtm_at "go"
    refine i_timesS (mq _ (by omega) (by omega)) ?_
    wtm_at "go"
    refine i_plusS (sl ?_) ?_
    · rw [PySem.Str.length_append, len_q hp0, len_q (by omega)]; show _ + 1 + _ ≤ _; omega
    exact RtM.mk q'

/-! ### rows that are drawn -/
def Row.put (r : Row) (x : Str) (v : Int) : Row := if (r.any fun p => decide (p.1 = x)) = true then r.map fun p => if p.1 = x then (p.1, v) else p else r ++ [(x, v)]
theorem Row.put_kvs {r : Row} {x : Str} {v : Int} : putD (r.map fun p => ((.inr p.1 : Key), D.int p.2)) (.inr x) (.int v) = (r.put x v).map fun p => ((.inr p.1 : Key), D.int p.2) := by
  unfold putD Row.put
  have e : ((r.map fun p => ((.inr p.1 : Key), D.int p.2)).any fun kv => decide (kv.1 = .inr x)) = r.any fun p => decide (p.1 = x) := by
    rw [List.any_map]; congr 1; funext p; simp
  rw [e]
  split
  · rw [List.map_map, List.map_map]
    apply List.map_congr_left
    intro p _
    by_cases c : p.1 = x <;> simp [c]
  · rw [List.map_append]; rfl
theorem Row.put_len {r : Row} {x : Str} {v : Int} : (r.put x v).length ≤ r.length + 1 := by
  unfold Row.put; split <;> simp
theorem lookup_cons' {α β : Type} [BEq α] {k x : α} {v : β} {r : List (α × β)} : List.lookup x ((k, v) :: r) = if x == k then some v else List.lookup x r := by
  rw [List.lookup_cons]
  split <;> rename_i h <;> simp [h]
theorem Row.put_same {r : Row} {x : Str} {v : Int} : (r.put x v).lookup x = some v := by
  unfold Row.put
  split
  · rename_i h
    induction r with
    | nil => simp at h
    | cons p r ih =>
      obtain ⟨y, j⟩ := p
      by_cases c : y = x
      · subst c; simp [lookup_cons']
      · have c' : ¬ x = y := fun z => c z.symm
        have h' : (r.any fun p => decide (p.1 = x)) = true := by simpa [c] using h
        simpa [c, c', lookup_cons'] using ih h'
  · rename_i h
    induction r with
    | nil => simp [lookup_cons']
    | cons p r ih =>
      obtain ⟨y, j⟩ := p
      by_cases c : y = x
      · exact absurd (by simp [c]) h
      · have c' : ¬ x = y := fun z => c z.symm
        have h' : ¬ (r.any fun p => decide (p.1 = x)) = true := by simpa [c] using h
        simpa [c', lookup_cons'] using ih h'
theorem Row.put_ne {r : Row} {x y : Str} {v : Int} (n : y ≠ x) : (r.put x v).lookup y = r.lookup y := by
  unfold Row.put
  split
  · rename_i h; clear h
    induction r with
    | nil => rfl
    | cons p r ih =>
      obtain ⟨z, j⟩ := p
      by_cases c : z = x
      · subst c; simp [n, lookup_cons', ih]
      · simp [c, lookup_cons', ih]
  · rename_i h; clear h
    induction r with
    | nil => simp [n, lookup_cons']
    | cons p r ih =>
      obtain ⟨z, j⟩ := p
      simp [lookup_cons', ih]
theorem Row.put_keys {r : Row} {x : Str} {v : Int} : (r.put x v).map (·.1) = if x ∈ r.map (·.1) then r.map (·.1) else r.map (·.1) ++ [x] := by
  unfold Row.put
  have e : (r.any fun p => decide (p.1 = x)) = true ↔ x ∈ r.map (·.1) := by
    simp only [List.any_eq_true, decide_eq_true_eq, List.mem_map]
  by_cases c : x ∈ r.map (·.1)
  · rw [if_pos (e.mpr c), if_pos c, List.map_map]
    apply List.map_congr_left
    intro p _
    show (if p.1 = x then (p.1, v) else p).1 = p.1
    split <;> rfl
  · rw [if_neg (fun z => c (e.mp z)), if_neg c, List.map_append]; rfl
/-- a row of just these names, its numbers small -/
structure RowI (r : Row) (nms : List Str) : Prop where
  len : r.length ≤ nms.length
  nd : (r.map (·.1)).Nodup
  lk : ∀ x ∈ nms, ∃ i, r.lookup x = some i ∧ i.natAbs < 10 ^ 12
  sb : ∀ p ∈ r, p.1 ∈ nms
theorem RowI.put {r : Row} {nms : List Str} {x : Str} {v : Int} (h : RowI r nms) (hv : v.natAbs < 10 ^ 12) : RowI (r.put x v) (nms ++ [x]) := by
  refine ⟨?_, ?_, fun y hy => ?_, fun p hp => ?_⟩
  · have := Row.put_len (r := r) (x := x) (v := v)
    have := h.len
    rw [List.length_append, List.length_singleton]; omega
  · rw [Row.put_keys]
    split
    · exact h.nd
    · rename_i c
      rw [List.nodup_append]
      refine ⟨h.nd, by simp, fun a ha b hb => ?_⟩
      simp only [List.mem_singleton] at hb
      subst hb; rintro rfl; exact c ha
  · by_cases c : y = x
    · subst c; exact ⟨v, Row.put_same, hv⟩
    · rw [Row.put_ne c]
      rw [List.mem_append, List.mem_singleton] at hy
      rcases hy with hy | hy
      · exact h.lk y hy
      · exact absurd hy c
  · have : p.1 ∈ (r.put x v).map (·.1) := List.mem_map_of_mem hp
    rw [Row.put_keys] at this
    rw [List.mem_append, List.mem_singleton]
    split at this
    · obtain ⟨q, hq, e⟩ := List.mem_map.mp this
      exact .inl (e ▸ h.sb q hq)
    · rw [List.mem_append, List.mem_singleton] at this
      rcases this with this | this
      · obtain ⟨q, hq, e⟩ := List.mem_map.mp this
        exact .inl (e ▸ h.sb q hq)
      · exact .inr this
/-- all but a stays -/
def Kp (a : Addr) (m m' : Mem) : Prop := ∀ b o, b ≠ a → m b = some o → m' b = some o
theorem Kp.refl {a : Addr} {m : Mem} : Kp a m m := fun _ _ _ h => h
theorem Kp.trans {a : Addr} {m m1 m2 : Mem} (h : Kp a m m1) (h2 : Kp a m1 m2) : Kp a m m2 := fun b o n e => h2 b o n (h b o n e)
theorem Kp.put {a : Addr} {m : Mem} {o : O} : Kp a m (mput m a o) := fun b u n e => by rw [mput_ne n]; exact e
theorem Kp.new {a p : Addr} {m m1 : Mem} {o : O} (h : Kp a m m1) (hp : m1 p = none) : Kp a m (mput m1 p o) := fun b u n e => mput_new hp (h b u n e)
/-- .. and what was not there may be changed -/
theorem Kp.own {a p : Addr} {m m1 : Mem} {o : O} (h : Kp a m m1) (hp : m p = none) : Kp a m (mput m1 p o) := fun b u n e => by
  rw [mput_ne]
  · exact h b u n e
  · rintro rfl; rw [hp] at e; cases e
theorem Kp.rd {a b : Addr} {m m' : Mem} {o : O} (h : Kp a m m') (n : b ≠ a) (e : rdM m b = some o) : rdM m' b = some o := by
  unfold rdM at e ⊢
  cases q : m b with
  | none => rw [q] at e; cases e
  | some u => rw [q] at e; rw [h _ _ n q]; exact e
theorem DrN.ne {K : PySem.W.Frag} {m : Mem} {a : Addr} {s : Dr} {nms : List Str} (h : DrN m s nms) (I : DrI K m a s) : s.nm ≠ a := by
  intro e
  have h1 := h.1
  rw [e, I.rd] at h1; cases h1
theorem DrN.kp {m m' : Mem} {a : Addr} {s s' : Dr} {nms : List Str} (h : DrN m s nms) (k : Kp a m m') (n : s.nm ≠ a) (e : s.nx s') : DrN m' s' nms := ⟨by rw [e.2.1]; exact k.rd n h.1, h.2⟩
theorem DrI.own {K : PySem.W.Frag} {m : Mem} {a p : Addr} {s : Dr} {o u : O} (h : DrI K m a s) (hp : m p = some o) (n : a ≠ p) (w : ∀ ds, rdM m p ≠ some (.lst ds)) : DrI K (mput m p u) a s := by
  obtain ⟨ns, l, z⟩ := h.sc
  exact ⟨by rw [mput_ne n]; exact h.e, ⟨ns, l.putD hp w, z⟩, h.at0, h.rest0, h.mix0, h.mix1⟩
theorem DrI.kp {K : PySem.W.Frag} {m m' : Mem} {a : Addr} {s s' : Dr} (h : DrI K m a s) (k : Kp a m m') (n : s.nx s') (e : m' a = some s'.o) (h1 : 0 ≤ s'.at_) (h2 : 0 ≤ s'.rest) (h3 : 0 ≤ s'.mixed) (h4 : s'.mixed < 2147483647) : DrI K m' a s' := by
  obtain ⟨ns, l, z⟩ := h.sc
  refine ⟨e, ⟨ns, ?_, z⟩, h1, h2, h3, h4⟩
  rw [n.1]
  rcases l with l | l
  · refine .inl (k.rd ?_ l)
    intro q; rw [q, h.rd] at l; cases l
  · exact .inr l
theorem DrI.kp' {K : PySem.W.Frag} {m m1 m' : Mem} {a : Addr} {s s' : Dr} (h : DrI K m a s) (h' : DrI K m1 a s') (k : Kp a m m') (n : s.nx s') (e : m' a = some s'.o) : DrI K m' a s' := h.kp k n e h'.at0 h'.rest0 h'.mix0 h'.mix1
/-- what a row is in the memory -/
structure RowsAt (m : Mem) (nms : List Str) (rs : List (Addr × Row)) : Prop where
  at_ : ∀ r ∈ rs, m r.1 = some r.2.o ∧ RowI r.2 nms


/-! ### two things that are alike -/
mutual
inductive Al (m : Mem) : Nat → D → D → Prop
  | non {n : Nat} : Al m n .non .non
  | bl {n : Nat} {b : Bool} : Al m n (.bl b) (.bl b)
  | int {n : Nat} {i : Int} : Al m n (.int i) (.int i)
  | str {n : Nat} {x : Str} : Al m n (.str x) (.str x)
  | tup {n : Nat} {xs ys : List D} : xs.length ≤ 1000000 → AlA m n xs ys → Al m (n + 1) (.tup xs) (.tup ys)
  | lst {n : Nat} {a b : Addr} {xs ys : List D} : xs.length ≤ 1000000 → rdM m a = some (.lst xs) → rdM m b = some (.lst ys) → AlA m n xs ys → Al m (n + 1) (.ref a) (.ref b)
inductive AlA (m : Mem) : Nat → List D → List D → Prop
  | nil {n : Nat} : AlA m n [] []
  | cons {n : Nat} {x y : D} {xs ys : List D} : Al m n x y → AlA m n xs ys → AlA m n (x :: xs) (y :: ys)
end
theorem AlA.len {m : Mem} {n : Nat} : ∀ {xs ys : List D}, AlA m n xs ys → xs.length = ys.length
  | _, _, .nil => rfl
  | _, _, .cons _ t => congrArg (· + 1) t.len
theorem AlA.at_ {m : Mem} {n : Nat} : ∀ {xs ys : List D} {j : Nat}, AlA m n xs ys → j < xs.length → ∃ x y, atI xs (j : Int) = some x ∧ atI ys (j : Int) = some y ∧ Al m n x y := by
  intro xs ys j h hj
  have h2 : j < ys.length := by rw [← h.len]; exact hj
  have go : ∀ (j : Nat) (xs ys : List D), AlA m n xs ys → ∀ (h1 : j < xs.length) (h2 : j < ys.length), Al m n xs[j] ys[j] := by
    intro j
    induction j with
    | zero => intro xs ys h h1 h2; cases h with
      | nil => cases h1
      | cons a t => exact a
    | succ j ih => intro xs ys h h1 h2; cases h with
      | nil => cases h1
      | cons a t => exact ih _ _ t _ _
  exact ⟨xs[j], ys[j], atI_nat (by simp [hj]), atI_nat (by simp [h2]), go j xs ys h hj h2⟩
theorem rangeD_len {i : Int} {n : Nat} : (rangeD i n).length = n := by unfold rangeD; simp
theorem rangeD_mem {i : Int} {n : Nat} {d : D} (h : d ∈ rangeD i n) : ∃ j : Nat, j < n ∧ d = .int (i + j) := by
  unfold rangeD at h
  obtain ⟨j, hj, rfl⟩ := List.mem_map.mp h
  exact ⟨j, List.mem_range.mp hj, rfl⟩
def spAl (n : Nat) : SpM := fun ds m Q _ => ∃ x y, ds = [x, y] ∧ n ≤ 60 ∧ (∃ k, k < n ∧ Al m k x y) ∧ Q (.bl true) m
theorem Told.of_ok {nms : List Str} {r : Row} (h : RowI r nms) : ∀ {t : Told}, t.of nms → t.ok r
  | .num i, h1 => Nat.lt_trans h1 (by decide)
  | .read x, h1 => by
    obtain ⟨i, e, z⟩ := h.lk x h1
    exact ⟨i, e, Nat.lt_trans z (by decide)⟩
  | .bin _ a b, h1 => ⟨Told.of_ok h h1.1, Told.of_ok h h1.2⟩
theorem row_mem {r : Row} (nd : (r.map (·.1)).Nodup) {p : Str × Int} (hp : p ∈ r) : r.lookup p.1 = some p.2 := by
  induction r with
  | nil => cases hp
  | cons q r ih =>
    obtain ⟨y, j⟩ := q
    rw [List.map_cons, List.nodup_cons] at nd
    rw [lookup_cons']
    cases hp with
    | head => simp
    | tail _ hp =>
      have : ¬ (p.1 == y) = true := by
        intro z
        have z : p.1 = y := by simpa using z
        exact nd.1 (List.mem_map.mpr ⟨p, hp, z⟩)
      rw [if_neg this]; exact ih nd.2 hp
theorem row_sameD {m : Mem} {r : Row} {nms : List Str} {a b : Addr} (h : RowI r nms) (e1 : m a = some r.o) (e2 : m b = some r.o) : SameD m a b := by
  refine ⟨_, _, e1, e2, rfl, fun p hp => ?_⟩
  obtain ⟨q, hq, rfl⟩ := List.mem_map.mp hp
  exact ⟨row_val (row_mem h.nd hq), .inl ⟨_, rfl⟩⟩

theorem fin_law_told {c : Nat} (Z : Bl mg) {f__law_taken : Addr} {fd__law_taken : FuncData} (D__law_taken : Df K mg "_law_taken" f__law_taken fd__law_taken ["_law_s", "_law_most"]) (G__law_taken : FnM P w K mg base CX0 (c) f__law_taken fd__law_taken ["_law_s", "_law_most"] (spTaken K)) {f__law_number : Addr} {fd__law_number : FuncData} (D__law_number : Df K mg "_law_number" f__law_number fd__law_number ["_law_s"]) (G__law_number : FnM P w K mg base CX0 (c) f__law_number fd__law_number ["_law_s"] (spNumber K)) {f__law_told : Addr} {fd__law_told : FuncData} (D__law_told : Df K mg "_law_told" f__law_told fd__law_told ["_law_s", "_law_deep"]) (F : Fun K "_law_told" "_law_told" s__law_told f__law_told fd__law_told) : ∀ n, FnM P w K mg base CX0 (c + n) f__law_told fd__law_told ["_law_s", "_law_deep"] (spTold K n)
  | 0 => fn_none fun ds m Q E ⟨a, s, nms, dp, _, h, _⟩ => by omega
  | n + 1 => ok_law_told Z D__law_taken (G__law_taken.mono (Nat.le_add_right c n)) D__law_number (G__law_number.mono (Nat.le_add_right c n)) D__law_told (fin_law_told Z D__law_taken G__law_taken D__law_number G__law_number D__law_told F n) F
def spJoined : SpM := fun ds m Q _ => match ds with
  | [.str w, .int a, .int b] => ∃ j : Jn, w = j.w ∧ (j = .times → CMulW a b) ∧ Q (.int (j.ap a b)) m
  | _ => False
def spRows (K : PySem.W.Frag) : SpM := fun ds m Q _ => ∃ (a : Addr) (s : Dr) (nms : List Str) (n : Nat), ds = [.ref a, .int n] ∧ n ≤ 130 ∧ DrI K m a s ∧ DrN m s nms ∧
  ∀ p s' m' (rs : List (Addr × Row)), rs.length = n → m p = none → m' p = some (.lst (rs.map fun r => .ref r.1)) → RowsAt m' nms rs → (∀ r ∈ rs, m r.1 = none) → Kp a m m' → DrI K m' a s' → s.nx s' → Q (.ref p) m'
/-! ### conditions -/
inductive Asked where
  | lt (a b : Told) | no (a : Asked) | all (a b : Asked) | any (a b : Asked)
def Asked.d : Asked → D
  | .lt a b => .tup [.str "below", a.d, b.d]
  | .no a => .tup [.str "not", a.d]
  | .all a b => .tup [.str "all", a.d, b.d]
  | .any a b => .tup [.str "any", a.d, b.d]
def Asked.dp : Asked → Nat
  | .lt _ _ => 0
  | .no a => a.dp + 1
  | .all a b => max a.dp b.dp + 1
  | .any a b => max a.dp b.dp + 1
/-- how deep its numbers are -/
def Asked.td : Asked → Nat
  | .lt a b => max a.dp b.dp
  | .no a => a.td
  | .all a b => max a.td b.td
  | .any a b => max a.td b.td
def Asked.val (r : Row) : Asked → Bool
  | .lt a b => decide (a.val r < b.val r)
  | .no a => !a.val r
  | .all a b => if a.val r = true then b.val r else false
  | .any a b => if a.val r = true then true else b.val r
def Asked.ok (r : Row) : Asked → Prop
  | .lt a b => a.ok r ∧ b.ok r
  | .no a => a.ok r
  | .all a b => a.ok r ∧ b.ok r
  | .any a b => a.ok r ∧ b.ok r
def Asked.of (nms : List Str) : Asked → Prop
  | .lt a b => a.of nms ∧ b.of nms
  | .no a => a.of nms
  | .all a b => a.of nms ∧ b.of nms
  | .any a b => a.of nms ∧ b.of nms
theorem Asked.of_ok {nms : List Str} {r : Row} (h : RowI r nms) : ∀ {t : Asked}, t.of nms → t.ok r
  | .lt _ _, h1 => ⟨Told.of_ok h h1.1, Told.of_ok h h1.2⟩
  | .no a, h1 => Asked.of_ok (t := a) h h1
  | .all _ _, h1 => ⟨Asked.of_ok h h1.1, Asked.of_ok h h1.2⟩
  | .any _ _, h1 => ⟨Asked.of_ok h h1.1, Asked.of_ok h h1.2⟩
def spHolds (n : Nat) : SpM := fun ds m Q _ => ∃ (t : Asked) (a : Addr) (r : Row), ds = [t.d, .ref a] ∧ t.dp < n ∧ t.td < 13 ∧ rdM m a = some r.o ∧ t.ok r ∧ Q (.bl (t.val r)) m

def spAsked (K : PySem.W.Frag) (n : Nat) : SpM := fun ds m Q _ => ∃ (a : Addr) (s : Dr) (nms : List Str) (dp : Nat), ds = [.ref a, .int dp] ∧ dp < n ∧ DrI K m a s ∧ DrN m s nms ∧
  ∀ (t : Asked) s', t.dp ≤ dp → t.td ≤ 1 → t.of nms → s.nx s' → DrI K (mput m a s'.o) a s' → Q t.d (mput m a s'.o)
abbrev s__law_asked : Stmt := topS 30
theorem sc__law_asked : FnScope ["_law_s", "_law_deep", "_law_way", "_law_one"] ["_law_s", "_law_deep"] (defScope s__law_asked) := ⟨rfl, rfl, rfl, by decide +kernel, rfl, by decide +kernel, by decide +kernel⟩
theorem ok_law_asked {k n : Nat} (Z : Bl mg) {f__law_taken : Addr} {fd__law_taken : FuncData} (D__law_taken : Df K mg "_law_taken" f__law_taken fd__law_taken ["_law_s", "_law_most"]) (G__law_taken : FnM P w K mg base CX0 (k) f__law_taken fd__law_taken ["_law_s", "_law_most"] (spTaken K)) {f__law_told : Addr} {fd__law_told : FuncData} (D__law_told : Df K mg "_law_told" f__law_told fd__law_told ["_law_s", "_law_deep"]) (G__law_told : FnM P w K mg base CX0 (k) f__law_told fd__law_told ["_law_s", "_law_deep"] (spTold K 2)) {f__law_asked : Addr} {fd__law_asked : FuncData} (D__law_asked : Df K mg "_law_asked" f__law_asked fd__law_asked ["_law_s", "_law_deep"]) (G__law_asked : FnM P w K mg base CX0 (k) f__law_asked fd__law_asked ["_law_s", "_law_deep"] (spAsked K n)) (F : Fun K "_law_asked" "_law_asked" s__law_asked f__law_asked fd__law_asked) : FnM P w K mg base CX0 (k + 1) f__law_asked fd__law_asked ["_law_s", "_law_deep"] (spAsked K (n + 1)) := by
  refine fn_m F sc__law_asked (fun ds m Q E h => ?_) (fun cdv A outer s H ds m Q E E' hr h => ?_)
  · obtain ⟨a, s, nms, dp, rfl, _⟩ := h; rfl
  have nd := sc__law_asked.nd
  obtain ⟨a, s, nms, dp, rfl, hd, I, hN, q⟩ := h
  refine ⟨_, (mss_cons (ms_set (i := 2) nd rfl (.inl rfl) (mx_call (Em := noX) G__law_taken hr D__law_taken.m D__law_taken.k D__law_taken.b pass0M (ma_cons (mv 0) (ma_cons mx_int ma_nil))))
    (mss_cons (ms_if (mw_pt (mw_or (mt_cmp mo_lt (mv 2) mx_int (nomark _)) (mw_or1 (mt_cmp (mo_eqq hr) (mv 1) mx_int (nomark _))))) (mss_cons (ms_set (i := 3) nd rfl (.inl rfl) (mx_call (Em := noX) G__law_told hr D__law_told.m D__law_told.k D__law_told.b pass0M (ma_cons (mv 0) (ma_cons mx_int ma_nil))))
    (mss_one (ms_ret (mx_tup (ma_cons mx_str (ma_cons (mv 3) (ma_cons (mx_call (Em := noX) G__law_told hr D__law_told.m D__law_told.k D__law_told.b pass0M (ma_cons (mv 0) (ma_cons mx_int ma_nil))) ma_nil))))))) mss_nil)
    (mss_cons (ms_set (i := 3) nd rfl (.inl rfl) (mx_call (Em := noX) G__law_asked hr D__law_asked.m D__law_asked.k D__law_asked.b pass0M (ma_cons (mv 0) (ma_cons (mx_op mo_sub (mv 1) mx_int) ma_nil))))
    (mss_cons (ms_if (mt_cmp (mo_eqq hr) (mv 2) mx_int (nomark _)) (mss_one (ms_ret (mx_tup (ma_cons mx_str (ma_cons (mv 3) ma_nil))))) mss_nil)
    (mss_one (ms_ret (mx_tup (ma_cons (mx_ix (mi_sub hr) (mx_lst (ma_cons mx_str (ma_cons mx_str ma_nil))) (mx_op mo_sub (mv 2) mx_int)) (ma_cons (mv 3) (ma_cons (mx_call (Em := noX) G__law_asked hr D__law_asked.m D__law_asked.k D__law_asked.b pass0M (ma_cons (mv 0) (ma_cons (mx_op mo_sub (mv 1) mx_int) ma_nil))) ma_nil)))))))))), ?_⟩
  wtm_at "go"
  refine spTaken.mk I (by decide) (by decide) fun way s1 h0 h1 n1 I1 => ?_
  have N1 := hN.put I n1
  have e2 : ∀ s1 s' : Dr, mput (mput m a s1.o) a s'.o = mput m a s'.o := fun s1 s' => mput_mput
  have I1e := I1.e
  have I1r := I1.rd
  wtm_at "go"
  refine i_ite (fun c => ?_) (fun c => ?_)
  rotate_left
  wtm_at "go"
  refine i_ite (fun c' => ?_) (fun c' => ?_)
  rotate_left
  · have c1 : ¬ way < 3 := of_decide_eq_false c
    have c2 : ¬ (dp : Int) = 0 := of_decide_eq_false c'
    have ed : (dp : Int) - 1 = ((dp - 1 : Nat) : Int) := by omega
    wtm_at "go"
    rw [ed]
    refine ⟨a, s1, nms, dp - 1, rfl, by omega, I1, N1, fun t1 s2 d1 w1 o1 n2 I2 => ?_⟩
    rw [e2] at I2 ⊢
    have N2 := N1.put I1 n2
    rw [e2] at N2
    wtm_at "go"
    refine i_ite (fun c3 => ?_) (fun c3 => ?_)
    · wtm_at "go"
      exact RtM.mk (q (.no t1) s2 (by show t1.dp + 1 ≤ dp; omega) w1 o1 (Dr.nx_trans n1 n2) I2)
    · have c4 : ¬ way = 3 := of_decide_eq_false c3
      wtm_at "go"
      intro p hp
      have I2' := I2.new (o := .lst [.str (Str.ofString "all"), .str (Str.ofString "any")]) hp
      obtain ⟨wd, mk, hj, g1, g2, g3, g4⟩ : ∃ (wd : Str) (mk : Asked → Asked → Asked), atI [D.str (Str.ofString "all"), .str (Str.ofString "any")] (way - 4) = some (.str wd) ∧ (∀ x y, (mk x y).d = .tup [.str wd, x.d, y.d]) ∧ (∀ x y, (mk x y).dp = max x.dp y.dp + 1) ∧ (∀ x y, (mk x y).td = max x.td y.td) ∧ (∀ x y, x.of nms → y.of nms → (mk x y).of nms) := by
        have : way = 4 ∨ way = 5 := by omega
        rcases this with rfl | rfl
        · exact ⟨"all", .all, rfl, fun _ _ => rfl, fun _ _ => rfl, fun _ _ => rfl, fun _ _ a b => ⟨a, b⟩⟩
        · exact ⟨"any", .any, rfl, fun _ _ => rfl, fun _ _ => rfl, fun _ _ => rfl, fun _ _ a b => ⟨a, b⟩⟩
      wtm_at "go"
      refine i_subL (rd_L mput_same) hj ?_
      wtm_at "go"
      rw [ed]
      refine ⟨a, s2, nms, dp - 1, rfl, by omega, I2', N2.new hp, fun t2 s3 d2 w2 o2 n3 I3 => ?_⟩
      have I3' : DrI K (mput m a s3.o) a s3 := by
        have := DrI.put (s' := s3) I2 n3.1 I3.at0 I3.rest0 I3.mix0 I3.mix1
        rw [e2] at this; exact this
      wtm_at "go"
      rw [← g1]
      refine RtM.sub ?_ (q (mk t1 t2) s3 (by rw [g2]; omega) (by rw [g3]; omega) (g4 _ _ o1 o2) (Dr.nx_trans n1 (Dr.nx_trans n2 n3)) I3')
      rw [← e2 s2 s3]; exact Sub.put (Sub.refl.new hp)
  all_goals (
    wtm_at "go"
    refine ⟨a, s1, nms, 1, rfl, by omega, I1, N1, fun t1 s2 d1 o1 n2 I2 => ?_⟩
    rw [e2] at I2 ⊢
    have N2 := N1.put I1 n2
    rw [e2] at N2
    wtm_at "go"
    refine ⟨a, s2, nms, 1, rfl, by omega, I2, N2, fun t2 s3 d2 o2 n3 I3 => ?_⟩
    rw [e2] at I3 ⊢
    wtm_at "go"
    exact RtM.mk (q (.lt t1 t2) s3 (Nat.zero_le _) (by show max t1.dp t2.dp ≤ 1; omega) ⟨o1, o2⟩ (Dr.nx_trans n1 (Dr.nx_trans n2 n3)) I3))
theorem fin_law_asked {c : Nat} (Z : Bl mg) {f__law_taken : Addr} {fd__law_taken : FuncData} (D__law_taken : Df K mg "_law_taken" f__law_taken fd__law_taken ["_law_s", "_law_most"]) (G__law_taken : FnM P w K mg base CX0 (c) f__law_taken fd__law_taken ["_law_s", "_law_most"] (spTaken K)) {f__law_told : Addr} {fd__law_told : FuncData} (D__law_told : Df K mg "_law_told" f__law_told fd__law_told ["_law_s", "_law_deep"]) (G__law_told : FnM P w K mg base CX0 (c) f__law_told fd__law_told ["_law_s", "_law_deep"] (spTold K 2)) {f__law_asked : Addr} {fd__law_asked : FuncData} (D__law_asked : Df K mg "_law_asked" f__law_asked fd__law_asked ["_law_s", "_law_deep"]) (F : Fun K "_law_asked" "_law_asked" s__law_asked f__law_asked fd__law_asked) : ∀ n, FnM P w K mg base CX0 (c + n) f__law_asked fd__law_asked ["_law_s", "_law_deep"] (spAsked K n)
  | 0 => fn_none fun ds m Q E ⟨a, s, nms, dp, _, h, _⟩ => by omega
  | n + 1 => ok_law_asked Z D__law_taken (G__law_taken.mono (Nat.le_add_right c n)) D__law_told (G__law_told.mono (Nat.le_add_right c n)) D__law_asked (fin_law_asked Z D__law_taken G__law_taken D__law_told G__law_told D__law_asked F n) F

local macro_rules | `(tactic| wtm_at "mem") => `(tactic| with_reducible first | assumption | exact mput_same | (apply DrS.rd; assumption) | (apply DrS.e; assumption) | (apply DrS.nl; assumption) | (apply mput_new; assumption; wtm_at "mem") | (apply mput_off; assumption; wtm_at "mem") | (apply mput_off'; assumption; wtm_at "mem") | (apply rd_K; wtm_at "mem") | (apply rd_L; wtm_at "mem") | (apply rd_T; wtm_at "mem") | (apply rd_I; wtm_at "mem") | (apply rd_frz; wtm_at "mem") | fail)

/-! ### drawing on -/
/-- the draw stands at s in the memory M; of what was at m all else stays -/
structure DrS (K : PySem.W.Frag) (m : Mem) (a : Addr) (nms : List Str) (s : Dr) (M : Mem) : Prop where
  I : DrI K M a s
  N : DrN M s nms
  S : Sub (mput m a s.o) M
  J : DrI K (mput m a s.o) a s
theorem DrS.start {K : PySem.W.Frag} {m : Mem} {a : Addr} {nms : List Str} {s : Dr} (I : DrI K m a s) (N : DrN m s nms) : DrS K m a nms s m := ⟨I, N, by rw [mput_self I.e]; exact Sub.refl, by rw [mput_self I.e]; exact I⟩
theorem DrS.on {K : PySem.W.Frag} {m M : Mem} {a : Addr} {nms : List Str} {s s' : Dr} (S : DrS K m a nms s M) (n : s.nx s') (I : DrI K (mput M a s'.o) a s') : DrS K m a nms s' (mput M a s'.o) := by
  refine ⟨I, S.N.put S.I n, ?_, ?_⟩
  · have : mput (mput m a s.o) a s'.o = mput m a s'.o := mput_mput
    rw [← this]; exact S.S.put
  · have := S.J.put (s' := s') n.1 I.at0 I.rest0 I.mix0 I.mix1
    have e : mput (mput m a s.o) a s'.o = mput m a s'.o := mput_mput
    rw [e] at this; exact this
theorem DrS.new {K : PySem.W.Frag} {m M : Mem} {a p : Addr} {nms : List Str} {s : Dr} {o : O} (S : DrS K m a nms s M) (hp : M p = none) : DrS K m a nms s (mput M p o) := ⟨S.I.new hp, S.N.new hp, S.S.new hp, S.J⟩
theorem DrS.rd {K : PySem.W.Frag} {m M : Mem} {a : Addr} {nms : List Str} {s : Dr} (S : DrS K m a nms s M) : rdM M a = some (.dK s.kvs) := S.I.rd
theorem DrS.e {K : PySem.W.Frag} {m M : Mem} {a : Addr} {nms : List Str} {s : Dr} (S : DrS K m a nms s M) : M a = some (.dK s.kvs) := S.I.e
theorem DrS.nl {K : PySem.W.Frag} {m M : Mem} {a : Addr} {nms : List Str} {s : Dr} (S : DrS K m a nms s M) : rdM M s.nm = some (.lst (nms.map .str)) := S.N.1
theorem spTaken.mkS {K : PySem.W.Frag} {m M : Mem} {Q : KM} {Em : XM} {a : Addr} {k : Int} {s : Dr} {nms : List Str} (S : DrS K m a nms s M) (h0 : 0 < k) (h1 : k ≤ 10 ^ 13)
    (q : ∀ r s', 0 ≤ r → r < k → s.nx s' → DrS K m a nms s' (mput M a s'.o) → Q (.int r) (mput M a s'.o)) : spTaken K [.ref a, .int k] M Q Em :=
  ⟨a, k, s, rfl, S.I, h0, h1, fun r s' a0 a1 n I => q r s' a0 a1 n (S.on n I)⟩
theorem spNumber.mkS {K : PySem.W.Frag} {m M : Mem} {Q : KM} {Em : XM} {a : Addr} {s : Dr} {nms : List Str} (S : DrS K m a nms s M)
    (q : ∀ v s', v.natAbs < 10 ^ 12 → s.nx s' → DrS K m a nms s' (mput M a s'.o) → Q (.int v) (mput M a s'.o)) : spNumber K [.ref a] M Q Em :=
  ⟨a, s, rfl, S.I, fun r s' a0 n I => q r s' a0 n (S.on n I)⟩
theorem spTold.mkS {K : PySem.W.Frag} {m M : Mem} {Q : KM} {Em : XM} {a : Addr} {s : Dr} {nms : List Str} {n dp : Nat} {x : Int} (S : DrS K m a nms s M) (e : x = dp) (h : dp < n)
    (q : ∀ (t : Told) s', t.dp ≤ dp → t.of nms → s.nx s' → DrS K m a nms s' (mput M a s'.o) → Q t.d (mput M a s'.o)) : spTold K n [.ref a, .int x] M Q Em :=
  ⟨a, s, nms, dp, by rw [e], h, S.I, S.N, fun r s' a0 a1 n I => q r s' a0 a1 n (S.on n I)⟩
theorem spAsked.mkS {K : PySem.W.Frag} {m M : Mem} {Q : KM} {Em : XM} {a : Addr} {s : Dr} {nms : List Str} {n dp : Nat} {x : Int} (S : DrS K m a nms s M) (e : x = dp) (h : dp < n)
    (q : ∀ (t : Asked) s', t.dp ≤ dp → t.td ≤ 1 → t.of nms → s.nx s' → DrS K m a nms s' (mput M a s'.o) → Q t.d (mput M a s'.o)) : spAsked K n [.ref a, .int x] M Q Em :=
  ⟨a, s, nms, dp, by rw [e], h, S.I, S.N, fun r s' a0 a1 a2 n I => q r s' a0 a1 a2 n (S.on n I)⟩
theorem wordOf_nx {s s' : Dr} (n : s.nx s') : wordOf s' = wordOf s := by
  obtain ⟨_, _, h1, h2, h3, h4⟩ := n
  funext k
  unfold wordOf
  rw [h1, h2, h3, h4]
theorem spWord.mkS {K : PySem.W.Frag} {m M : Mem} {Q : KM} {Em : XM} {a : Addr} {s : Dr} {nms : List Str} {k : Int} (S : DrS K m a nms s M) (B : DrB s) (h0 : 0 ≤ k) (q : Q (.str (wordOf s k)) M) : spWord K [.ref a, .int k] M Q Em := ⟨a, s, k, rfl, S.rd, B, h0, q⟩

/-! ### contracts -/
inductive Con where
  | no | give (a b g : Str) (t : Told) | both (x y : Con) | turned (a b : Str) (x : Con) | later (h : Int) (x : Con) | often (n k : Int) (x : Con) | ite (q : Asked) (x y : Con) | when (q : Asked) (x : Con) | till (q : Asked) (x : Con)
def Con.d : Con → D
  | .no => .tup [.str "none"]
  | .give a b g t => .tup [.str "give", .str a, .str b, .str g, t.d]
  | .both x y => .tup [.str "both", x.d, y.d]
  | .turned a b x => .tup [.str "turned", .str a, .str b, x.d]
  | .later h x => .tup [.str "later", .int h, x.d]
  | .often n k x => .tup [.str "often", .int n, .int k, x.d]
  | .ite q x y => .tup [.str "if", q.d, x.d, y.d]
  | .when q x => .tup [.str "when", q.d, x.d]
  | .till q x => .tup [.str "until", q.d, x.d]
/-- two sides of the draw's -/
def sidesOf (wd : Int → Str) (a b : Str) : Prop := ∃ i j : Int, 0 ≤ i ∧ i < 4 ∧ 0 ≤ j ∧ j < 4 ∧ i ≠ j ∧ a = wd i ∧ b = wd j
def goodOf (wd : Int → Str) (g : Str) : Prop := ∃ i : Int, 4 ≤ i ∧ i < 8 ∧ g = wd i
/-- drawn: its words are the draw's, its numbers within -/
def Con.of (wd : Int → Str) (nms : List Str) : Con → Prop
  | .no => True
  | .give a b g t => sidesOf wd a b ∧ goodOf wd g ∧ t.of nms ∧ t.dp ≤ 2
  | .both x y => x.of wd nms ∧ y.of wd nms
  | .turned a b x => sidesOf wd a b ∧ x.of wd nms
  | .later h x => (0 ≤ h ∧ h ≤ 99) ∧ x.of wd nms
  | .often n k x => (1 ≤ n ∧ n ≤ 9 ∧ 1 ≤ k ∧ k ≤ 2) ∧ x.of wd nms
  | .ite q x y => (q.of nms ∧ q.dp ≤ 2 ∧ q.td ≤ 1) ∧ x.of wd nms ∧ y.of wd nms
  | .when q x => (q.of nms ∧ q.dp ≤ 2 ∧ q.td ≤ 1) ∧ x.of wd nms
  | .till q x => (q.of nms ∧ q.dp ≤ 2 ∧ q.td ≤ 1) ∧ x.of wd nms
def Con.dp : Con → Nat
  | .no => 0
  | .give _ _ _ _ => 0
  | .both x y => max x.dp y.dp + 1
  | .turned _ _ x => x.dp + 1
  | .later _ x => x.dp + 1
  | .often _ _ x => x.dp + 1
  | .ite _ x y => max x.dp y.dp + 1
  | .when _ x => x.dp + 1
  | .till _ x => x.dp + 1
/-- a draw that makes d with C -/
def DrawTo (K : PySem.W.Frag) (a : Addr) (m : Mem) (Q : KM) (C : Dr → List Str → D → Prop) : Prop := ∃ s nms, DrI K m a s ∧ DrN m s nms ∧ DrB s ∧
  ∀ d s', C s nms d → s.nx s' → DrI K (mput m a s'.o) a s' → Q d (mput m a s'.o)
theorem DrawTo.mkS {K : PySem.W.Frag} {m M : Mem} {Q : KM} {a : Addr} {s : Dr} {nms : List Str} {C : Dr → List Str → D → Prop} (S : DrS K m a nms s M) (B : DrB s)
    (q : ∀ d s', C s nms d → s.nx s' → DrS K m a nms s' (mput M a s'.o) → Q d (mput M a s'.o)) : DrawTo K a M Q C := ⟨s, nms, S.I, S.N, B, fun d s' c n I => q d s' c n (S.on n I)⟩
def spSides (K : PySem.W.Frag) : SpM := fun ds m Q _ => ∃ a, ds = [.ref a] ∧ DrawTo K a m Q fun s _ d => ∃ x y, sidesOf (wordOf s) x y ∧ d = .tup [.str x, .str y]
def spGood (K : PySem.W.Frag) : SpM := fun ds m Q _ => ∃ a, ds = [.ref a] ∧ DrawTo K a m Q fun s _ d => ∃ x, goodOf (wordOf s) x ∧ d = .str x
def Con.gv : Con → Prop
  | .give _ _ _ _ => True
  | _ => False
def spGive (K : PySem.W.Frag) : SpM := fun ds m Q _ => ∃ a, ds = [.ref a] ∧ DrawTo K a m Q fun s nms d => ∃ c : Con, c.of (wordOf s) nms ∧ (c.dp = 0 ∧ c.gv) ∧ d = c.d
def spCon (K : PySem.W.Frag) (n : Nat) : SpM := fun ds m Q _ => ∃ (a : Addr) (dp : Nat), ds = [.ref a, .int dp] ∧ dp < n ∧ DrawTo K a m Q fun s nms d => ∃ c : Con, c.of (wordOf s) nms ∧ c.dp ≤ dp ∧ d = c.d
abbrev s__law_sides : Stmt := topS 31
theorem sc__law_sides : FnScope ["_law_s", "_law_many", "_law_one", "_law_other"] ["_law_s"] (defScope s__law_sides) := ⟨rfl, rfl, rfl, by decide +kernel, rfl, by decide +kernel, by decide +kernel⟩
theorem ok_law_sides {k : Nat} (Z : Bl mg) {f__law_taken : Addr} {fd__law_taken : FuncData} (D__law_taken : Df K mg "_law_taken" f__law_taken fd__law_taken ["_law_s", "_law_most"]) (G__law_taken : FnM P w K mg base CX0 (k) f__law_taken fd__law_taken ["_law_s", "_law_most"] (spTaken K)) {f__law_word : Addr} {fd__law_word : FuncData} (D__law_word : Df K mg "_law_word" f__law_word fd__law_word ["_law_s", "_law_k"]) (G__law_word : FnM P w K mg base CX0 (k) f__law_word fd__law_word ["_law_s", "_law_k"] (spWord K)) {f__law_sides : Addr} {fd__law_sides : FuncData} (F : Fun K "_law_sides" "_law_sides" s__law_sides f__law_sides fd__law_sides) : FnM P w K mg base CX0 (k + 1) f__law_sides fd__law_sides ["_law_s"] (spSides K) := by
  refine fn_m F sc__law_sides (fun ds m Q E h => ?_) (fun cdv A outer s H ds m Q E E' hr h => ?_)
  · obtain ⟨a, rfl, _⟩ := h; rfl
  have nd := sc__law_sides.nd
  obtain ⟨a, rfl, s, nms, I, N, B, q⟩ := h
  have S := DrS.start I N
  refine ⟨_, (mss_cons (ms_set (i := 1) nd rfl (.inl rfl) (mx_ix (mi_sub hr) (mx_lst (ma_cons mx_int (ma_cons mx_int (ma_cons mx_int ma_nil)))) (mx_call (Em := noX) G__law_taken hr D__law_taken.m D__law_taken.k D__law_taken.b pass0M (ma_cons (mv 0) (ma_cons mx_int ma_nil)))))
    (mss_cons (ms_set (i := 2) nd rfl (.inl rfl) (mx_call (Em := noX) G__law_taken hr D__law_taken.m D__law_taken.k D__law_taken.b pass0M (ma_cons (mv 0) (ma_cons (mv 1) ma_nil))))
    (mss_cons (ms_set (i := 3) nd rfl (.inl rfl) (mx_op mo_mod (mx_op mo_plus (mx_op mo_plus (mv 2) mx_int) (mx_call (Em := noX) G__law_taken hr D__law_taken.m D__law_taken.k D__law_taken.b pass0M (ma_cons (mv 0) (ma_cons (mx_op mo_sub (mv 1) mx_int) ma_nil)))) (mv 1)))
    (mss_one (ms_ret (mx_tup (ma_cons (mx_call (Em := noX) G__law_word hr D__law_word.m D__law_word.k D__law_word.b pass0M (ma_cons (mv 0) (ma_cons (mv 2) ma_nil))) (ma_cons (mx_call (Em := noX) G__law_word hr D__law_word.m D__law_word.k D__law_word.b pass0M (ma_cons (mv 0) (ma_cons (mv 3) ma_nil))) ma_nil)))))))), ?_⟩
  wtm_at "go"
  intro p hp
  have S0 := S.new (o := .lst [.int 3, .int 3, .int 4]) hp
  wtm_at "go"
  refine spTaken.mkS S0 (by decide) (by decide) fun i s1 h0 h1 n1 S1 => ?_
  wtm_at "go"
  obtain ⟨mm, hm, hm1, hm2⟩ : ∃ mm : Int, atI [D.int 3, .int 3, .int 4] i = some (.int mm) ∧ 3 ≤ mm ∧ mm ≤ 4 := by
    have : i = 0 ∨ i = 1 ∨ i = 2 := by omega
    rcases this with rfl | rfl | rfl
    · exact ⟨3, rfl, by decide, by decide⟩
    · exact ⟨3, rfl, by decide, by decide⟩
    · exact ⟨4, rfl, by decide, by decide⟩
  have nap : p ≠ a := fun z => by rw [z, I.e] at hp; cases hp
  refine i_subL (rd_L (by rw [mput_ne nap]; exact mput_same)) hm ?_
  wtm_at "go"
  refine spTaken.mkS S1 (by omega) (by omega) fun j s2 j0 j1 n2 S2 => ?_
  wtm_at "go"
  refine spTaken.mkS S2 (by omega) (by omega) fun l s3 l0 l1 n3 S3 => ?_
  wtm_at "go"
  have n13 := Dr.nx_trans n1 (Dr.nx_trans n2 n3)
  have B3 := B.nx n13
  have k0 : 0 ≤ (j + 1 + l) % mm := Int.emod_nonneg _ (by omega)
  have k1 : (j + 1 + l) % mm < mm := Int.emod_lt_of_pos _ (by omega)
  refine spWord.mkS S3 B3 j0 ?_
  wtm_at "go"
  refine spWord.mkS S3 B3 k0 ?_
  wtm_at "go"
  refine RtM.sub S3.S (q _ s3 ⟨_, _, ⟨j, (j + 1 + l) % mm, j0, by omega, k0, by omega, ?_, rfl, rfl⟩, ?_⟩ n13 S3.J)
  · intro e
    have hd := Int.emod_add_mul_ediv (j + 1 + l) mm
    rcases (by omega : (j + 1 + l) / mm = 0 ∨ (j + 1 + l) / mm ≠ 0) with z | z
    · rw [z] at hd; omega
    · have : j + 1 + l < mm + mm := by omega
      have z2 : (j + 1 + l) / mm = 1 := by
        have a1 : (j + 1 + l) / mm < 2 := Int.ediv_lt_of_lt_mul (by omega) (by omega)
        have a2 : 0 ≤ (j + 1 + l) / mm := Int.ediv_nonneg (by omega) (by omega)
        omega
      rw [z2] at hd; omega
  · rw [wordOf_nx n13]
abbrev s__law_good : Stmt := topS 32
theorem sc__law_good : FnScope ["_law_s"] ["_law_s"] (defScope s__law_good) := ⟨rfl, rfl, rfl, by decide +kernel, rfl, by decide +kernel, by decide +kernel⟩
theorem ok_law_good {k : Nat} (Z : Bl mg) {f__law_taken : Addr} {fd__law_taken : FuncData} (D__law_taken : Df K mg "_law_taken" f__law_taken fd__law_taken ["_law_s", "_law_most"]) (G__law_taken : FnM P w K mg base CX0 (k) f__law_taken fd__law_taken ["_law_s", "_law_most"] (spTaken K)) {f__law_word : Addr} {fd__law_word : FuncData} (D__law_word : Df K mg "_law_word" f__law_word fd__law_word ["_law_s", "_law_k"]) (G__law_word : FnM P w K mg base CX0 (k) f__law_word fd__law_word ["_law_s", "_law_k"] (spWord K)) {f__law_good : Addr} {fd__law_good : FuncData} (F : Fun K "_law_good" "_law_good" s__law_good f__law_good fd__law_good) : FnM P w K mg base CX0 (k + 1) f__law_good fd__law_good ["_law_s"] (spGood K) := by
  refine fn_m F sc__law_good (fun ds m Q E h => ?_) (fun cdv A outer s H ds m Q E E' hr h => ?_)
  · obtain ⟨a, rfl, _⟩ := h; rfl
  have nd := sc__law_good.nd
  obtain ⟨a, rfl, s, nms, I, N, B, q⟩ := h
  have S := DrS.start I N
  refine ⟨_, (mss_one (ms_ret (mx_call (Em := noX) G__law_word hr D__law_word.m D__law_word.k D__law_word.b pass0M (ma_cons (mv 0) (ma_cons (mx_op mo_plus mx_int (mx_call (Em := noX) G__law_taken hr D__law_taken.m D__law_taken.k D__law_taken.b pass0M (ma_cons (mv 0) (ma_cons (mx_ix (mi_sub hr) (mx_lst (ma_cons mx_int (ma_cons mx_int (ma_cons mx_int ma_nil)))) (mx_call (Em := noX) G__law_taken hr D__law_taken.m D__law_taken.k D__law_taken.b pass0M (ma_cons (mv 0) (ma_cons mx_int ma_nil)))) ma_nil)))) ma_nil))))), ?_⟩
  wtm_at "go"
  intro p hp
  have S0 := S.new (o := .lst [.int 2, .int 2, .int 4]) hp
  wtm_at "go"
  refine spTaken.mkS S0 (by decide) (by decide) fun i s1 h0 h1 n1 S1 => ?_
  wtm_at "go"
  obtain ⟨mm, hm, hm1, hm2⟩ : ∃ mm : Int, atI [D.int 2, .int 2, .int 4] i = some (.int mm) ∧ 2 ≤ mm ∧ mm ≤ 4 := by
    have : i = 0 ∨ i = 1 ∨ i = 2 := by omega
    rcases this with rfl | rfl | rfl
    · exact ⟨2, rfl, by decide, by decide⟩
    · exact ⟨2, rfl, by decide, by decide⟩
    · exact ⟨4, rfl, by decide, by decide⟩
  have nap : p ≠ a := fun z => by rw [z, I.e] at hp; cases hp
  refine i_subL (rd_L (by rw [mput_ne nap]; exact mput_same)) hm ?_
  wtm_at "go"
  refine spTaken.mkS S1 (by omega) (by omega) fun j s2 j0 j1 n2 S2 => ?_
  wtm_at "go"
  have n12 := Dr.nx_trans n1 n2
  refine spWord.mkS S2 (B.nx n12) (by omega) ?_
  exact RtM.sub S2.S (q _ s2 ⟨_, ⟨4 + j, by omega, by omega, rfl⟩, by rw [wordOf_nx n12]⟩ n12 S2.J)
abbrev s__law_give : Stmt := topS 33
theorem sc__law_give : FnScope ["_law_s", "_law_one", "_law_other", "_law_good_here"] ["_law_s"] (defScope s__law_give) := ⟨rfl, rfl, rfl, by decide +kernel, rfl, by decide +kernel, by decide +kernel⟩
theorem ok_law_give {k : Nat} (Z : Bl mg) {f__law_sides : Addr} {fd__law_sides : FuncData} (D__law_sides : Df K mg "_law_sides" f__law_sides fd__law_sides ["_law_s"]) (G__law_sides : FnM P w K mg base CX0 (k) f__law_sides fd__law_sides ["_law_s"] (spSides K)) {f__law_good : Addr} {fd__law_good : FuncData} (D__law_good : Df K mg "_law_good" f__law_good fd__law_good ["_law_s"]) (G__law_good : FnM P w K mg base CX0 (k) f__law_good fd__law_good ["_law_s"] (spGood K)) {f__law_told : Addr} {fd__law_told : FuncData} (D__law_told : Df K mg "_law_told" f__law_told fd__law_told ["_law_s", "_law_deep"]) (G__law_told : FnM P w K mg base CX0 (k) f__law_told fd__law_told ["_law_s", "_law_deep"] (spTold K 3)) {f__law_give : Addr} {fd__law_give : FuncData} (F : Fun K "_law_give" "_law_give" s__law_give f__law_give fd__law_give) : FnM P w K mg base CX0 (k + 1) f__law_give fd__law_give ["_law_s"] (spGive K) := by
  refine fn_m F sc__law_give (fun ds m Q E h => ?_) (fun cdv A outer s H ds m Q E E' hr h => ?_)
  · obtain ⟨a, rfl, _⟩ := h; rfl
  have nd := sc__law_give.nd
  obtain ⟨a, rfl, s, nms, I, N, B, q⟩ := h
  have S := DrS.start I N
  refine ⟨_, (mss_cons (ms_asg (mx_call (Em := noX) G__law_sides hr D__law_sides.m D__law_sides.k D__law_sides.b pass0M (ma_cons (mv 0) ma_nil)) (mg_tup rfl (mgs_cons (mg_name (i := 1) nd rfl (.inl rfl)) (mgs_cons (mg_name (i := 2) nd rfl (.inl rfl)) mgs_nil))))
    (mss_cons (ms_set (i := 3) nd rfl (.inl rfl) (mx_call (Em := noX) G__law_good hr D__law_good.m D__law_good.k D__law_good.b pass0M (ma_cons (mv 0) ma_nil)))
    (mss_one (ms_ret (mx_tup (ma_cons mx_str (ma_cons (mv 1) (ma_cons (mv 2) (ma_cons (mv 3) (ma_cons (mx_call (Em := noX) G__law_told hr D__law_told.m D__law_told.k D__law_told.b pass0M (ma_cons (mv 0) (ma_cons mx_int ma_nil))) ma_nil)))))))))), ?_⟩
  wtm_at "go"
  refine ⟨a, rfl, DrawTo.mkS S B ?_⟩
  rintro d s1 ⟨x, y, hxy, rfl⟩ n1 S1
  wtm_at "go"
  have B1 := B.nx n1
  refine ⟨a, rfl, DrawTo.mkS S1 B1 ?_⟩
  rintro d s2 ⟨g, hg, rfl⟩ n2 S2
  wtm_at "go"
  refine spTold.mkS (dp := 2) S2 rfl (by omega) fun t s3 td tof n3 S3 => ?_
  wtm_at "go"
  rw [wordOf_nx n1] at hg
  exact RtM.sub S3.S (q _ s3 ⟨.give x y g t, ⟨hxy, hg, tof, td⟩, ⟨rfl, trivial⟩, rfl⟩ (Dr.nx_trans n1 (Dr.nx_trans n2 n3)) S3.J)

theorem spCon.mkS {K : PySem.W.Frag} {m M : Mem} {Q : KM} {Em : XM} {a : Addr} {s : Dr} {nms : List Str} {n dp : Nat} {x : Int} (S : DrS K m a nms s M) (B : DrB s) (e : x = dp) (h : dp < n)
    (q : ∀ (c : Con) s', c.of (wordOf s) nms → c.dp ≤ dp → s.nx s' → DrS K m a nms s' (mput M a s'.o) → Q c.d (mput M a s'.o)) : spCon K n [.ref a, .int x] M Q Em :=
  ⟨a, dp, by rw [e], h, DrawTo.mkS S B fun d s' ⟨c, h1, h2, e⟩ n1 S1 => by rw [e]; exact q c s' h1 h2 n1 S1⟩
theorem spSides.mkS {K : PySem.W.Frag} {m M : Mem} {Q : KM} {Em : XM} {a : Addr} {s : Dr} {nms : List Str} (S : DrS K m a nms s M) (B : DrB s)
    (q : ∀ x y s', sidesOf (wordOf s) x y → s.nx s' → DrS K m a nms s' (mput M a s'.o) → Q (.tup [.str x, .str y]) (mput M a s'.o)) : spSides K [.ref a] M Q Em :=
  ⟨a, rfl, DrawTo.mkS S B fun d s' ⟨x, y, h1, e⟩ n1 S1 => by rw [e]; exact q x y s' h1 n1 S1⟩
theorem spGood.mkS {K : PySem.W.Frag} {m M : Mem} {Q : KM} {Em : XM} {a : Addr} {s : Dr} {nms : List Str} (S : DrS K m a nms s M) (B : DrB s)
    (q : ∀ x s', goodOf (wordOf s) x → s.nx s' → DrS K m a nms s' (mput M a s'.o) → Q (.str x) (mput M a s'.o)) : spGood K [.ref a] M Q Em :=
  ⟨a, rfl, DrawTo.mkS S B fun d s' ⟨x, h1, e⟩ n1 S1 => by rw [e]; exact q x s' h1 n1 S1⟩
abbrev s__law_contract : Stmt := topS 34
theorem sc__law_contract : FnScope ["_law_s", "_law_deep", "_law_way", "_law_one", "_law_hours", "_law_many", "_law_asked_here"] ["_law_s", "_law_deep"] (defScope s__law_contract) := ⟨rfl, rfl, rfl, by decide +kernel, rfl, by decide +kernel, by decide +kernel⟩
theorem ok_law_contract {k n : Nat} (Z : Bl mg) {f__law_taken : Addr} {fd__law_taken : FuncData} (D__law_taken : Df K mg "_law_taken" f__law_taken fd__law_taken ["_law_s", "_law_most"]) (G__law_taken : FnM P w K mg base CX0 (k) f__law_taken fd__law_taken ["_law_s", "_law_most"] (spTaken K)) {f__law_give : Addr} {fd__law_give : FuncData} (D__law_give : Df K mg "_law_give" f__law_give fd__law_give ["_law_s"]) (G__law_give : FnM P w K mg base CX0 (k) f__law_give fd__law_give ["_law_s"] (spGive K)) {f__law_sides : Addr} {fd__law_sides : FuncData} (D__law_sides : Df K mg "_law_sides" f__law_sides fd__law_sides ["_law_s"]) (G__law_sides : FnM P w K mg base CX0 (k) f__law_sides fd__law_sides ["_law_s"] (spSides K)) {f__law_asked : Addr} {fd__law_asked : FuncData} (D__law_asked : Df K mg "_law_asked" f__law_asked fd__law_asked ["_law_s", "_law_deep"]) (G__law_asked : FnM P w K mg base CX0 (k) f__law_asked fd__law_asked ["_law_s", "_law_deep"] (spAsked K 3)) {f__law_contract : Addr} {fd__law_contract : FuncData} (D__law_contract : Df K mg "_law_contract" f__law_contract fd__law_contract ["_law_s", "_law_deep"]) (G__law_contract : FnM P w K mg base CX0 (k) f__law_contract fd__law_contract ["_law_s", "_law_deep"] (spCon K n)) (F : Fun K "_law_contract" "_law_contract" s__law_contract f__law_contract fd__law_contract) : FnM P w K mg base CX0 (k + 1) f__law_contract fd__law_contract ["_law_s", "_law_deep"] (spCon K (n + 1)) := by
  refine fn_m F sc__law_contract (fun ds m Q E h => ?_) (fun cdv A outer s H ds m Q E E' hr h => ?_)
  · obtain ⟨a, dp, rfl, _⟩ := h; rfl
  have nd := sc__law_contract.nd
  obtain ⟨a, dp, rfl, hd, s, nms, I, N, B, q⟩ := h
  have S := DrS.start I N
  refine ⟨_, (mss_cons (ms_set (i := 2) nd rfl (.inl rfl) (mx_call (Em := noX) G__law_taken hr D__law_taken.m D__law_taken.k D__law_taken.b pass0M (ma_cons (mv 0) (ma_cons mx_int ma_nil))))
    (mss_cons (ms_if (mw_pt (mw_or (mt_cmp (mo_eqq hr) (mv 1) mx_int (nomark _)) (mw_or1 (mt_cmp mo_lt (mv 2) mx_int (nomark _))))) (mss_one (ms_ret (mx_call (Em := noX) G__law_give hr D__law_give.m D__law_give.k D__law_give.b pass0M (ma_cons (mv 0) ma_nil)))) mss_nil)
    (mss_cons (ms_if (mt_cmp (mo_eqq hr) (mv 2) mx_int (nomark _)) (mss_one (ms_ret (mx_tup (ma_cons mx_str ma_nil)))) mss_nil)
    (mss_cons (ms_if (mt_cmp mo_lt (mv 2) mx_int (nomark _)) (mss_cons (ms_set (i := 3) nd rfl (.inl rfl) (mx_call (Em := noX) G__law_contract hr D__law_contract.m D__law_contract.k D__law_contract.b pass0M (ma_cons (mv 0) (ma_cons (mx_op mo_sub (mv 1) mx_int) ma_nil))))
    (mss_one (ms_ret (mx_tup (ma_cons mx_str (ma_cons (mv 3) (ma_cons (mx_call (Em := noX) G__law_contract hr D__law_contract.m D__law_contract.k D__law_contract.b pass0M (ma_cons (mv 0) (ma_cons (mx_op mo_sub (mv 1) mx_int) ma_nil))) ma_nil))))))) mss_nil)
    (mss_cons (ms_if (mt_cmp (mo_eqq hr) (mv 2) mx_int (nomark _)) (mss_one (ms_ret (mx_op mo_plus (mx_op mo_plus (mx_tup (ma_cons mx_str ma_nil)) (mx_call (Em := noX) G__law_sides hr D__law_sides.m D__law_sides.k D__law_sides.b pass0M (ma_cons (mv 0) ma_nil))) (mx_tup (ma_cons (mx_call (Em := noX) G__law_contract hr D__law_contract.m D__law_contract.k D__law_contract.b pass0M (ma_cons (mv 0) (ma_cons (mx_op mo_sub (mv 1) mx_int) ma_nil))) ma_nil))))) mss_nil)
    (mss_cons (ms_if (mt_cmp (mo_eqq hr) (mv 2) mx_int (nomark _)) (mss_cons (ms_set (i := 4) nd rfl (.inl rfl) (mx_ix (mi_sub hr) (mx_lst (ma_cons (mx_call (Em := noX) G__law_taken hr D__law_taken.m D__law_taken.k D__law_taken.b pass0M (ma_cons (mv 0) (ma_cons mx_int ma_nil))) (ma_cons (mx_call (Em := noX) G__law_taken hr D__law_taken.m D__law_taken.k D__law_taken.b pass0M (ma_cons (mv 0) (ma_cons mx_int ma_nil))) ma_nil))) (mx_callTy mc_int1 Z.b_int (ma_cons (mx_cmp (mo_eqq hr) (mx_call (Em := noX) G__law_taken hr D__law_taken.m D__law_taken.k D__law_taken.b pass0M (ma_cons (mv 0) (ma_cons mx_int ma_nil))) mx_int (nomark _)) ma_nil))))
    (mss_one (ms_ret (mx_tup (ma_cons mx_str (ma_cons (mv 4) (ma_cons (mx_call (Em := noX) G__law_contract hr D__law_contract.m D__law_contract.k D__law_contract.b pass0M (ma_cons (mv 0) (ma_cons (mx_op mo_sub (mv 1) mx_int) ma_nil))) ma_nil))))))) mss_nil)
    (mss_cons (ms_if (mt_cmp (mo_eqq hr) (mv 2) mx_int (nomark _)) (mss_cons (ms_set (i := 5) nd rfl (.inl rfl) (mx_ix (mi_sub hr) (mx_lst (ma_cons (mx_op mo_plus mx_int (mx_call (Em := noX) G__law_taken hr D__law_taken.m D__law_taken.k D__law_taken.b pass0M (ma_cons (mv 0) (ma_cons mx_int ma_nil)))) (ma_cons (mx_op mo_plus mx_int (mx_call (Em := noX) G__law_taken hr D__law_taken.m D__law_taken.k D__law_taken.b pass0M (ma_cons (mv 0) (ma_cons mx_int ma_nil)))) ma_nil))) (mx_callTy mc_int1 Z.b_int (ma_cons (mx_cmp (mo_eqq hr) (mx_call (Em := noX) G__law_taken hr D__law_taken.m D__law_taken.k D__law_taken.b pass0M (ma_cons (mv 0) (ma_cons mx_int ma_nil))) mx_int (nomark _)) ma_nil))))
    (mss_one (ms_ret (mx_tup (ma_cons mx_str (ma_cons (mv 5) (ma_cons (mx_op mo_plus mx_int (mx_call (Em := noX) G__law_taken hr D__law_taken.m D__law_taken.k D__law_taken.b pass0M (ma_cons (mv 0) (ma_cons mx_int ma_nil)))) (ma_cons (mx_call (Em := noX) G__law_contract hr D__law_contract.m D__law_contract.k D__law_contract.b pass0M (ma_cons (mv 0) (ma_cons (mx_op mo_sub (mv 1) mx_int) ma_nil))) ma_nil)))))))) mss_nil)
    (mss_cons (ms_set (i := 6) nd rfl (.inl rfl) (mx_call (Em := noX) G__law_asked hr D__law_asked.m D__law_asked.k D__law_asked.b pass0M (ma_cons (mv 0) (ma_cons mx_int ma_nil))))
    (mss_cons (ms_if (mt_cmp (mo_eqq hr) (mv 2) mx_int (nomark _)) (mss_cons (ms_set (i := 3) nd rfl (.inl rfl) (mx_call (Em := noX) G__law_contract hr D__law_contract.m D__law_contract.k D__law_contract.b pass0M (ma_cons (mv 0) (ma_cons (mx_op mo_sub (mv 1) mx_int) ma_nil))))
    (mss_one (ms_ret (mx_tup (ma_cons mx_str (ma_cons (mv 6) (ma_cons (mv 3) (ma_cons (mx_call (Em := noX) G__law_contract hr D__law_contract.m D__law_contract.k D__law_contract.b pass0M (ma_cons (mv 0) (ma_cons (mx_op mo_sub (mv 1) mx_int) ma_nil))) ma_nil)))))))) mss_nil)
    (mss_one (ms_ret (mx_tup (ma_cons (mx_ix (mi_sub hr) (mx_lst (ma_cons mx_str (ma_cons mx_str ma_nil))) (mx_op mo_sub (mv 2) mx_int)) (ma_cons (mv 6) (ma_cons (mx_call (Em := noX) G__law_contract hr D__law_contract.m D__law_contract.k D__law_contract.b pass0M (ma_cons (mv 0) (ma_cons (mx_op mo_sub (mv 1) mx_int) ma_nil))) ma_nil))))))))))))))), ?_⟩
  wtm_at "go"
  refine spTaken.mkS S (by decide) (by decide) fun way s1 h0 h1 n1 S1 => ?_
  have B1 := B.nx n1
  have w1 := wordOf_nx n1
  -- how it ends
  have fin : ∀ (c : Con) (s' : Dr) (M : Mem), c.of (wordOf s) nms → c.dp ≤ dp → s.nx s' → DrS K m a nms s' M → RtM Q c.d M := fun c s' M h1 h2 n S => RtM.sub S.S (q _ s' ⟨c, h1, h2, rfl⟩ n S.J)
  clear q
  wtm_at "go"
  refine i_ite (fun c0 => ?_) (fun c0 => ?_)
  · -- deep is 0
    wtm_at "go"
    refine ⟨a, rfl, DrawTo.mkS S1 B1 ?_⟩
    rintro d s2 ⟨c, hc, hdp, rfl⟩ n2 S2
    rw [w1] at hc
    exact fin c s2 _ hc (by omega) (Dr.nx_trans n1 n2) S2
  have d0 : ¬ (dp : Int) = 0 := of_decide_eq_false c0
  have ed : (dp : Int) - 1 = ((dp - 1 : Nat) : Int) := by omega
  wtm_at "go"
  refine i_ite (fun c1 => ?_) (fun c1 => ?_)
  · wtm_at "go"
    refine ⟨a, rfl, DrawTo.mkS S1 B1 ?_⟩
    rintro d s2 ⟨c, hc, hdp, rfl⟩ n2 S2
    rw [w1] at hc
    exact fin c s2 _ hc (by omega) (Dr.nx_trans n1 n2) S2
  have g1 : ¬ way < 3 := of_decide_eq_false c1
  wtm_at "go"
  refine i_ite (fun c2 => ?_) (fun c2 => ?_)
  · wtm_at "go"
    exact fin .no s1 _ trivial (Nat.zero_le _) n1 S1
  have g2 : ¬ way = 3 := of_decide_eq_false c2
  wtm_at "go"
  refine i_ite (fun c3 => ?_) (fun c3 => ?_)
  · wtm_at "go"
    refine spCon.mkS S1 B1 ed (by omega) fun x s2 hx dx n2 S2 => ?_
    rw [w1] at hx
    have n12 := Dr.nx_trans n1 n2
    wtm_at "go"
    refine spCon.mkS S2 (B.nx n12) ed (by omega) fun y s3 hy dy n3 S3 => ?_
    rw [wordOf_nx n12] at hy
    wtm_at "go"
    exact fin (.both x y) s3 _ ⟨hx, hy⟩ (by show max x.dp y.dp + 1 ≤ dp; omega) (Dr.nx_trans n12 n3) S3
  have g3 : ¬ way < 6 := of_decide_eq_false c3
  wtm_at "go"
  refine i_ite (fun c4 => ?_) (fun c4 => ?_)
  · wtm_at "go"
    refine spSides.mkS S1 B1 fun x y s2 hxy n2 S2 => ?_
    rw [w1] at hxy
    have n12 := Dr.nx_trans n1 n2
    wtm_at "go"
    refine spCon.mkS S2 (B.nx n12) ed (by omega) fun z s3 hz dz n3 S3 => ?_
    rw [wordOf_nx n12] at hz
    wtm_at "go"
    exact fin (.turned x y z) s3 _ ⟨hxy, hz⟩ (by show z.dp + 1 ≤ dp; omega) (Dr.nx_trans n12 n3) S3
  have g4 : ¬ way = 6 := of_decide_eq_false c4
  wtm_at "go"
  refine i_ite (fun c5 => ?_) (fun c5 => ?_)
  · wtm_at "go"
    refine spTaken.mkS S1 (by decide) (by decide) fun u s2 u0 u1 n2 S2 => ?_
    wtm_at "go"
    refine spTaken.mkS S2 (by decide) (by decide) fun v s3 v0 v1 n3 S3 => ?_
    wtm_at "go"
    intro p hp
    have S4 := S3.new (o := .lst [.int u, .int v]) hp
    wtm_at "go"
    refine spTaken.mkS S4 (by decide) (by decide) fun t s4 t0 t1 n4 S5 => ?_
    wtm_at "go"
    have n14 := Dr.nx_trans n1 (Dr.nx_trans n2 (Dr.nx_trans n3 n4))
    have nap : p ≠ a := fun z => by rw [z, S3.e] at hp; cases hp
    obtain ⟨hh, eh, z0, z1⟩ : ∃ hh : Int, atI [D.int u, .int v] (if decide (t = 7) = true then 1 else 0) = some (.int hh) ∧ 0 ≤ hh ∧ hh ≤ 99 := by
      by_cases c : t = 7
      · rw [decide_eq_true c]; exact ⟨v, rfl, v0, by omega⟩
      · rw [decide_eq_false c]; exact ⟨u, rfl, u0, by omega⟩
    refine i_subL (rd_L (by rw [mput_ne nap]; exact mput_same)) eh ?_
    wtm_at "go"
    refine spCon.mkS S5 (B.nx n14) ed (by omega) fun z s5 hz dz n5 S6 => ?_
    rw [wordOf_nx n14] at hz
    wtm_at "go"
    exact fin (.later hh z) s5 _ ⟨⟨z0, z1⟩, hz⟩ (by show z.dp + 1 ≤ dp; omega) (Dr.nx_trans n14 n5) S6
  have g5 : ¬ way = 7 := of_decide_eq_false c5
  wtm_at "go"
  refine i_ite (fun c6 => ?_) (fun c6 => ?_)
  · wtm_at "go"
    refine spTaken.mkS S1 (by decide) (by decide) fun u s2 u0 u1 n2 S2 => ?_
    wtm_at "go"
    refine spTaken.mkS S2 (by decide) (by decide) fun v s3 v0 v1 n3 S3 => ?_
    wtm_at "go"
    intro p hp
    have S4 := S3.new (o := .lst [.int (1 + u), .int (1 + v)]) hp
    wtm_at "go"
    refine spTaken.mkS S4 (by decide) (by decide) fun t s4 t0 t1 n4 S5 => ?_
    wtm_at "go"
    have n14 := Dr.nx_trans n1 (Dr.nx_trans n2 (Dr.nx_trans n3 n4))
    have nap : p ≠ a := fun z => by rw [z, S3.e] at hp; cases hp
    obtain ⟨hh, eh, z0, z1⟩ : ∃ hh : Int, atI [D.int (1 + u), .int (1 + v)] (if decide (t = 7) = true then 1 else 0) = some (.int hh) ∧ 1 ≤ hh ∧ hh ≤ 9 := by
      by_cases c : t = 7
      · rw [decide_eq_true c]; exact ⟨1 + v, rfl, by omega, by omega⟩
      · rw [decide_eq_false c]; exact ⟨1 + u, rfl, by omega, by omega⟩
    refine i_subL (rd_L (by rw [mput_ne nap]; exact mput_same)) eh ?_
    wtm_at "go"
    refine spTaken.mkS S5 (by decide) (by decide) fun st s5 st0 st1 n5 S6 => ?_
    have n15 := Dr.nx_trans n14 n5
    wtm_at "go"
    refine spCon.mkS S6 (B.nx n15) ed (by omega) fun z s6 hz dz n6 S7 => ?_
    rw [wordOf_nx n15] at hz
    wtm_at "go"
    exact fin (.often hh (1 + st) z) s6 _ ⟨⟨z0, z1, by omega, by omega⟩, hz⟩ (by show z.dp + 1 ≤ dp; omega) (Dr.nx_trans n15 n6) S7
  have g6 : ¬ way = 8 := of_decide_eq_false c6
  wtm_at "go"
  refine spAsked.mkS (dp := 2) S1 rfl (by omega) fun t s2 d2 td2 o2 n2 S2 => ?_
  have n12 := Dr.nx_trans n1 n2
  wtm_at "go"
  refine i_ite (fun c7 => ?_) (fun c7 => ?_)
  · wtm_at "go"
    refine spCon.mkS S2 (B.nx n12) ed (by omega) fun x s3 hx dx n3 S3 => ?_
    rw [wordOf_nx n12] at hx
    have n13 := Dr.nx_trans n12 n3
    wtm_at "go"
    refine spCon.mkS S3 (B.nx n13) ed (by omega) fun y s4 hy dy n4 S4 => ?_
    rw [wordOf_nx n13] at hy
    wtm_at "go"
    exact fin (.ite t x y) s4 _ ⟨⟨o2, d2, td2⟩, hx, hy⟩ (by show max x.dp y.dp + 1 ≤ dp; omega) (Dr.nx_trans n13 n4) S4
  have g7 : ¬ way = 9 := of_decide_eq_false c7
  wtm_at "go"
  intro p hp
  have S3 := S2.new (o := .lst [.str (Str.ofString "when"), .str (Str.ofString "until")]) hp
  wtm_at "go"
  obtain ⟨wd, mk, hj, e1, e2, e3⟩ : ∃ (wd : Str) (mk : Asked → Con → Con), atI [D.str (Str.ofString "when"), .str (Str.ofString "until")] (way - 10) = some (.str wd) ∧ (∀ x y, (mk x y).d = .tup [.str wd, x.d, y.d]) ∧ (∀ x y, (mk x y).dp = y.dp + 1) ∧
      (∀ x y wd nms, (x.of nms ∧ x.dp ≤ 2 ∧ x.td ≤ 1) → y.of wd nms → (mk x y).of wd nms) := by
    have : way = 10 ∨ way = 11 := by omega
    rcases this with rfl | rfl
    · exact ⟨"when", .when, rfl, fun _ _ => rfl, fun _ _ => rfl, fun _ _ _ _ a b => ⟨a, b⟩⟩
    · exact ⟨"until", .till, rfl, fun _ _ => rfl, fun _ _ => rfl, fun _ _ _ _ a b => ⟨a, b⟩⟩
  refine i_subL (rd_L mput_same) hj ?_
  wtm_at "go"
  refine spCon.mkS S3 (B.nx n12) ed (by omega) fun x s4 hx dx n4 S4 => ?_
  rw [wordOf_nx n12] at hx
  wtm_at "go"
  rw [← e1]
  exact fin (mk t x) s4 _ (e3 _ _ _ _ ⟨o2, d2, td2⟩ hx) (by rw [e2]; omega) (Dr.nx_trans n12 n4) S4
theorem fin_law_contract {c : Nat} (Z : Bl mg) {f__law_taken : Addr} {fd__law_taken : FuncData} (D__law_taken : Df K mg "_law_taken" f__law_taken fd__law_taken ["_law_s", "_law_most"]) (G__law_taken : FnM P w K mg base CX0 (c) f__law_taken fd__law_taken ["_law_s", "_law_most"] (spTaken K)) {f__law_give : Addr} {fd__law_give : FuncData} (D__law_give : Df K mg "_law_give" f__law_give fd__law_give ["_law_s"]) (G__law_give : FnM P w K mg base CX0 (c) f__law_give fd__law_give ["_law_s"] (spGive K)) {f__law_sides : Addr} {fd__law_sides : FuncData} (D__law_sides : Df K mg "_law_sides" f__law_sides fd__law_sides ["_law_s"]) (G__law_sides : FnM P w K mg base CX0 (c) f__law_sides fd__law_sides ["_law_s"] (spSides K)) {f__law_asked : Addr} {fd__law_asked : FuncData} (D__law_asked : Df K mg "_law_asked" f__law_asked fd__law_asked ["_law_s", "_law_deep"]) (G__law_asked : FnM P w K mg base CX0 (c) f__law_asked fd__law_asked ["_law_s", "_law_deep"] (spAsked K 3)) {f__law_contract : Addr} {fd__law_contract : FuncData} (D__law_contract : Df K mg "_law_contract" f__law_contract fd__law_contract ["_law_s", "_law_deep"]) (F : Fun K "_law_contract" "_law_contract" s__law_contract f__law_contract fd__law_contract) : ∀ n, FnM P w K mg base CX0 (c + n) f__law_contract fd__law_contract ["_law_s", "_law_deep"] (spCon K n)
  | 0 => fn_none fun ds m Q E ⟨a, dp, _, h, _⟩ => by omega
  | n + 1 => ok_law_contract Z D__law_taken (G__law_taken.mono (Nat.le_add_right c n)) D__law_give (G__law_give.mono (Nat.le_add_right c n)) D__law_sides (G__law_sides.mono (Nat.le_add_right c n)) D__law_asked (G__law_asked.mono (Nat.le_add_right c n)) D__law_contract (fin_law_contract Z D__law_taken G__law_taken D__law_give G__law_give D__law_sides G__law_sides D__law_asked G__law_asked D__law_contract F n) F

/-- as it was: its words and its script -/
def Dr.sw (s s' : Dr) : Prop := s'.sc = s.sc ∧ s'.size = s.size ∧ s'.place = s.place ∧ s'.turn = s.turn ∧ s'.talk = s.talk
theorem Dr.nx.sw {s s' : Dr} (n : s.nx s') : s.sw s' := ⟨n.1, n.2.2.1, n.2.2.2.1, n.2.2.2.2.1, n.2.2.2.2.2⟩
theorem Dr.sw_trans {s s' s2 : Dr} (a : s.sw s') (b : s'.sw s2) : s.sw s2 := by
  obtain ⟨a1, a2, a3, a4, a5⟩ := a
  obtain ⟨b1, b2, b3, b4, b5⟩ := b
  exact ⟨b1.trans a1, b2.trans a2, b3.trans a3, b4.trans a4, b5.trans a5⟩
theorem wordOf_sw {s s' : Dr} (n : s.sw s') : wordOf s' = wordOf s := by
  obtain ⟨_, h1, h2, h3, h4⟩ := n
  funext k
  unfold wordOf
  rw [h1, h2, h3, h4]
theorem DrB.sw {s s' : Dr} (b : DrB s) (n : s.sw s') : DrB s' := by
  obtain ⟨_, h1, h2, h3, h4⟩ := n
  obtain ⟨b1, b2, b3, b4, b5, b6, b7⟩ := b
  exact ⟨by omega, by omega, by omega, by omega, by omega, by omega, by omega⟩
def namesOf (s : Dr) (n : Nat) : List Str := (List.range n).map fun j : Nat => wordOf s (8 + (j : Int))
/-- words round a give, as they are drawn -/
def Con.ch : Con → Prop
  | .give _ _ _ t => t.dp ≤ 1
  | .turned _ _ x => x.ch
  | .later _ x => x.ch
  | .often n _ x => n ≤ 3 ∧ x.ch
  | .when q x => q.dp = 0 ∧ x.ch
  | .till q x => q.dp = 0 ∧ x.ch
  | _ => False
def Con.dw (c : Con) : Prop := c.dp ≤ 3 ∨ (c.dp ≤ 5 ∧ c.ch)
theorem Con.dw.dp {c : Con} (h : c.dw) : c.dp ≤ 5 := by rcases h with h | h <;> omega
def spDrawn (K : PySem.W.Frag) : SpM := fun ds m Q _ => ∃ (a : Addr) (s : Dr) (many : Nat), ds = [.ref a, .int many] ∧ many ≤ 4 ∧ DrI K m a s ∧ DrB s ∧
  ∀ (c : Con) s' m', c.of (wordOf s) (namesOf s many) → c.dw → s.sw s' → DrI K m' a s' → DrN m' s' (namesOf s many) → Kp a m m' → Q c.d m'
abbrev s__law_drawn : Stmt := topS 35
theorem sc__law_drawn : FnScope ["_law_s", "_law_many", "_law_k", "_law_contract_here", "_law_way"] ["_law_s", "_law_many"] (defScope s__law_drawn) := ⟨rfl, rfl, rfl, by decide +kernel, rfl, by decide +kernel, by decide +kernel⟩
theorem ok_law_drawn {k : Nat} (Z : Bl mg) {f__law_taken : Addr} {fd__law_taken : FuncData} (D__law_taken : Df K mg "_law_taken" f__law_taken fd__law_taken ["_law_s", "_law_most"]) (G__law_taken : FnM P w K mg base CX0 (k) f__law_taken fd__law_taken ["_law_s", "_law_most"] (spTaken K)) {f__law_word : Addr} {fd__law_word : FuncData} (D__law_word : Df K mg "_law_word" f__law_word fd__law_word ["_law_s", "_law_k"]) (G__law_word : FnM P w K mg base CX0 (k) f__law_word fd__law_word ["_law_s", "_law_k"] (spWord K)) {f__law_sides : Addr} {fd__law_sides : FuncData} (D__law_sides : Df K mg "_law_sides" f__law_sides fd__law_sides ["_law_s"]) (G__law_sides : FnM P w K mg base CX0 (k) f__law_sides fd__law_sides ["_law_s"] (spSides K)) {f__law_good : Addr} {fd__law_good : FuncData} (D__law_good : Df K mg "_law_good" f__law_good fd__law_good ["_law_s"]) (G__law_good : FnM P w K mg base CX0 (k) f__law_good fd__law_good ["_law_s"] (spGood K)) {f__law_told : Addr} {fd__law_told : FuncData} (D__law_told : Df K mg "_law_told" f__law_told fd__law_told ["_law_s", "_law_deep"]) (G__law_told : FnM P w K mg base CX0 (k) f__law_told fd__law_told ["_law_s", "_law_deep"] (spTold K 2)) {f__law_asked : Addr} {fd__law_asked : FuncData} (D__law_asked : Df K mg "_law_asked" f__law_asked fd__law_asked ["_law_s", "_law_deep"]) (G__law_asked : FnM P w K mg base CX0 (k) f__law_asked fd__law_asked ["_law_s", "_law_deep"] (spAsked K 1)) {f__law_contract : Addr} {fd__law_contract : FuncData} (D__law_contract : Df K mg "_law_contract" f__law_contract fd__law_contract ["_law_s", "_law_deep"]) (G__law_contract : FnM P w K mg base CX0 (k) f__law_contract fd__law_contract ["_law_s", "_law_deep"] (spCon K 4)) {f__law_drawn : Addr} {fd__law_drawn : FuncData} (F : Fun K "_law_drawn" "_law_drawn" s__law_drawn f__law_drawn fd__law_drawn) : FnM P w K mg base CX0 (k + 1) f__law_drawn fd__law_drawn ["_law_s", "_law_many"] (spDrawn K) := by
  refine fn_m F sc__law_drawn (fun ds m Q E h => ?_) (fun cdv A outer s H ds m Q E E' hr h => ?_)
  · obtain ⟨a, s, many, rfl, _⟩ := h; rfl
  have nd := sc__law_drawn.nd
  obtain ⟨a, s, many, rfl, hmany, I, B, q⟩ := h
  refine ⟨_, (mss_cons (ms_dput (hu1 hr) (mv 0) mx_str (mx_lc (own := [("_law_k", 2)]) rfl nd (mi_range1 Z.b_range (ma_cons (mv 1) ma_nil)) (blkOk_by (by show blkC ["_law_s", "_law_many", "_law_k", "_law_contract_here", "_law_way"] (defScope s__law_drawn) _ _ = true; decide +kernel)) (fun _ _ _ _ _ => (pg_name (i := 2) nd rfl (Or.inl rfl))) (gok_name (i := 2) (by decide)) (fun _ _ _ _ _ => mts_nil) (fun _ _ _ _ _ => (mx_call (Em := noX) G__law_word hr D__law_word.m D__law_word.k D__law_word.b pass0M (ma_cons (mv 0) (ma_cons (mx_op mo_plus mx_int (mv 2)) ma_nil))))))
    (mss_cons (ms_if (mt_cmp mo_lt (mx_call (Em := noX) G__law_taken hr D__law_taken.m D__law_taken.k D__law_taken.b pass0M (ma_cons (mv 0) (ma_cons mx_int ma_nil))) mx_int (nomark _)) (mss_one (ms_ret (mx_call (Em := noX) G__law_contract hr D__law_contract.m D__law_contract.k D__law_contract.b pass0M (ma_cons (mv 0) (ma_cons mx_int ma_nil))))) mss_nil)
    (mss_cons (ms_set (i := 3) nd rfl (.inl rfl) (mx_op mo_plus (mx_op mo_plus (mx_tup (ma_cons mx_str ma_nil)) (mx_call (Em := noX) G__law_sides hr D__law_sides.m D__law_sides.k D__law_sides.b pass0M (ma_cons (mv 0) ma_nil))) (mx_tup (ma_cons (mx_call (Em := noX) G__law_good hr D__law_good.m D__law_good.k D__law_good.b pass0M (ma_cons (mv 0) ma_nil)) (ma_cons (mx_call (Em := noX) G__law_told hr D__law_told.m D__law_told.k D__law_told.b pass0M (ma_cons (mv 0) (ma_cons mx_int ma_nil))) ma_nil)))))
    (mss_cons (ms_for PassesOwn.never rfl (mi_range1 Z.b_range (ma_cons mx_int ma_nil)) (mg_name (i := 2) nd rfl (.inl rfl)) (mss_cons (ms_set (i := 4) nd rfl (.inl rfl) (mx_call (Em := noX) G__law_taken hr D__law_taken.m D__law_taken.k D__law_taken.b pass0M (ma_cons (mv 0) (ma_cons mx_int ma_nil))))
    (mss_one (ms_if (mt_cmp (mo_eqq hr) (mv 4) mx_int (nomark _)) (mss_one (ms_set (i := 3) nd rfl (.inl rfl) (mx_tup (ma_cons mx_str (ma_cons (mx_call (Em := noX) G__law_taken hr D__law_taken.m D__law_taken.k D__law_taken.b pass0M (ma_cons (mv 0) (ma_cons mx_int ma_nil))) (ma_cons (mv 3) ma_nil)))))) (mss_one (ms_if (mt_cmp (mo_eqq hr) (mv 4) mx_int (nomark _)) (mss_one (ms_set (i := 3) nd rfl (.inl rfl) (mx_op mo_plus (mx_op mo_plus (mx_tup (ma_cons mx_str ma_nil)) (mx_call (Em := noX) G__law_sides hr D__law_sides.m D__law_sides.k D__law_sides.b pass0M (ma_cons (mv 0) ma_nil))) (mx_tup (ma_cons (mv 3) ma_nil))))) (mss_one (ms_if (mt_cmp (mo_eqq hr) (mv 4) mx_int (nomark _)) (mss_one (ms_set (i := 3) nd rfl (.inl rfl) (mx_tup (ma_cons mx_str (ma_cons (mx_op mo_plus mx_int (mx_call (Em := noX) G__law_taken hr D__law_taken.m D__law_taken.k D__law_taken.b pass0M (ma_cons (mv 0) (ma_cons mx_int ma_nil)))) (ma_cons (mx_op mo_plus mx_int (mx_call (Em := noX) G__law_taken hr D__law_taken.m D__law_taken.k D__law_taken.b pass0M (ma_cons (mv 0) (ma_cons mx_int ma_nil)))) (ma_cons (mv 3) ma_nil))))))) (mss_one (ms_set (i := 3) nd rfl (.inl rfl) (mx_tup (ma_cons (mx_ix (mi_sub hr) (mx_lst (ma_cons mx_str (ma_cons mx_str ma_nil))) (mx_op mo_sub (mv 4) mx_int)) (ma_cons (mx_call (Em := noX) G__law_asked hr D__law_asked.m D__law_asked.k D__law_asked.b pass0M (ma_cons (mv 0) (ma_cons mx_int ma_nil))) (ma_cons (mv 3) ma_nil))))))))))))))
    (mss_one (ms_ret (mv 3))))))), ?_⟩
  wtm_at "go"
  refine ⟨by omega, by omega, ?_⟩
  have Ir := I.rd
  refine lcC_pure (fun d => match d with | .int j => .str (wordOf s (8 + j)) | _ => .non) (by rw [rangeD_len]; exact sl (by omega)) trivial ?_ ?_
  · intro d hd R hR
    obtain ⟨j, hj, rfl⟩ := rangeD_mem hd
    refine ⟨rfl, ?_⟩
    wtm_at "go"
    exact ⟨a, s, _, rfl, Ir, B, by omega, hR⟩
  intro p hp
  have ew : (rangeD 0 (many : Int).toNat).map (fun d => match d with | .int j => D.str (wordOf s (8 + j)) | _ => .non) = (namesOf s many).map D.str := by
    unfold rangeD namesOf
    rw [List.map_map, List.map_map, show ((many : Int)).toNat = many by omega]
    apply List.map_congr_left
    intro j _
    show D.str (wordOf s (8 + (0 + (j : Int)))) = D.str (wordOf s (8 + (j : Int)))
    rw [Int.zero_add]
  rw [ew]
  have hnl : (namesOf s many).length ≤ 20 := by unfold namesOf; rw [List.length_map, List.length_range]; omega
  generalize hnm : namesOf s many = nms at hnl q
  wtm_at "go"
  refine i_putK (mput_new hp I.e) Dr.len ?_
  rw [Dr.p_names]
  have nap : p ≠ a := fun z => by rw [z, I.e] at hp; cases hp
  have I2 := (I.new (o := .lst (nms.map D.str)) hp).put (s' := { s with nm := p }) rfl I.at0 I.rest0 I.mix0 I.mix1
  have N2 : DrN (mput (mput m p (.lst (nms.map D.str))) a (Dr.o { s with nm := p })) { s with nm := p } nms := ⟨rd_L (by rw [mput_ne nap, mput_same]), hnl⟩
  have sw2 : s.sw { s with nm := p } := ⟨rfl, rfl, rfl, rfl, rfl⟩
  generalize hs2 : ({ s with nm := p } : Dr) = s2 at I2 N2 sw2 ⊢
  have kp2 : Kp a m (mput (mput m p (.lst (nms.map D.str))) a s2.o) := (Kp.refl.new hp).trans Kp.put
  generalize hM2 : mput (mput m p (.lst (nms.map D.str))) a s2.o = M2 at I2 N2 kp2 ⊢
  have S := DrS.start I2 N2
  have B2 := B.sw sw2
  have w2 := wordOf_sw sw2
  have fin : ∀ (c : Con) (s' : Dr) (M : Mem), c.of (wordOf s) nms → c.dw → s2.nx s' → DrS K M2 a nms s' M → RtM Q c.d M := fun c s' M h1 h2 n S =>
    RtM.sub S.S (q c s' _ h1 h2 (Dr.sw_trans sw2 n.sw) S.J (N2.put I2 n) (kp2.trans Kp.put))
  clear q hM2 hs2
  wtm_at "go"
  refine spTaken.mkS S (by decide) (by decide) fun way s3 h0 h1 n3 S3 => ?_
  have B3 := B2.nx n3
  have w3 : wordOf s3 = wordOf s := (wordOf_nx n3).trans w2
  wtm_at "go"
  refine i_ite (fun c0 => ?_) (fun c0 => ?_)
  · wtm_at "go"
    refine spCon.mkS (dp := 3) S3 B3 rfl (by omega) fun x s4 hx dx n4 S4 => ?_
    rw [w3] at hx
    exact fin x s4 _ hx (.inl (by omega)) (Dr.nx_trans n3 n4) S4
  wtm_at "go"
  refine spSides.mkS S3 B3 fun x y s4 hxy n4 S4 => ?_
  rw [w3] at hxy
  have n34 := Dr.nx_trans n3 n4
  wtm_at "go"
  refine spGood.mkS S4 (B2.nx n34) fun g s5 hg n5 S5 => ?_
  rw [(wordOf_nx n34).trans w2] at hg
  have n35 := Dr.nx_trans n34 n5
  wtm_at "go"
  refine spTold.mkS (dp := 1) S5 rfl (by omega) fun t s6 td tof n6 S6 => ?_
  have n36 := Dr.nx_trans n35 n6
  wtm_at "go"
  refine ⟨by decide, by decide, ?_⟩
  refine forC_ind (fun r ρ M => ∃ (c : Con) (s7 : Dr) (x4 x5 : Option D), (r.length + c.dp ≤ 5 ∧ c.ch) ∧ ρ = [some (.ref a), some (.int many), x4, some c.d, x5] ∧ c.of (wordOf s) nms ∧ s2.nx s7 ∧ DrS K M2 a nms s7 M)
    ⟨.give x y g t, s6, _, _, ⟨Nat.le_refl 5, td⟩, rfl, ⟨hxy, hg, tof, by omega⟩, n36, S6⟩ ?_ ?_
  · rintro ρ M ⟨c, s7, x4, x5, ⟨hl, hch⟩, rfl, hc, n7, S7⟩
    refine ⟨trivial, ?_⟩
    wtm_at "go"
    exact fin c s7 _ hc (.inr ⟨by simpa using hl, hch⟩) n7 S7
  · rintro d r ρ M L hK ⟨c, s7, x4, x5, ⟨hl, hch⟩, rfl, hc, n7, S7⟩
    simp only [List.length_cons] at hl
    refine ⟨trivial, ?_⟩
    wtm_at "go"
    refine spTaken.mkS S7 (by decide) (by decide) fun v s8 v0 v1 n8 S8 => ?_
    have n78 := Dr.nx_trans n7 n8
    have B8 := B2.nx n78
    have w8 : wordOf s8 = wordOf s := (wordOf_nx n78).trans w2
    wtm_at "go"
    refine i_ite (fun c1 => ?_) (fun c1 => ?_)
    · wtm_at "go"
      refine spTaken.mkS S8 (by decide) (by decide) fun u s9 u0 u1 n9 S9 => ?_
      wtm_at "go"
      exact hK _ _ ⟨.later u c, s9, _, _, ⟨by show _ + (c.dp + 1) ≤ 5; omega, hch⟩, rfl, ⟨⟨u0, by omega⟩, hc⟩, Dr.nx_trans n78 n9, S9⟩
    have g1 : ¬ v = 0 := of_decide_eq_false c1
    wtm_at "go"
    refine i_ite (fun c2 => ?_) (fun c2 => ?_)
    · wtm_at "go"
      refine spSides.mkS S8 B8 fun x y s9 hxy n9 S9 => ?_
      rw [w8] at hxy
      wtm_at "go"
      exact hK _ _ ⟨.turned x y c, s9, _, _, ⟨by show _ + (c.dp + 1) ≤ 5; omega, hch⟩, rfl, ⟨hxy, hc⟩, Dr.nx_trans n78 n9, S9⟩
    have g2 : ¬ v = 1 := of_decide_eq_false c2
    wtm_at "go"
    refine i_ite (fun c3 => ?_) (fun c3 => ?_)
    · wtm_at "go"
      refine spTaken.mkS S8 (by decide) (by decide) fun u s9 u0 u1 n9 S9 => ?_
      wtm_at "go"
      refine spTaken.mkS S9 (by decide) (by decide) fun u' s10 u0' u1' n10 S10 => ?_
      wtm_at "go"
      exact hK _ _ ⟨.often (1 + u) (1 + u') c, s10, _, _, ⟨by show _ + (c.dp + 1) ≤ 5; omega, by omega, hch⟩, rfl, ⟨⟨by omega, by omega, by omega, by omega⟩, hc⟩, Dr.nx_trans n78 (Dr.nx_trans n9 n10), S10⟩
    have g3 : ¬ v = 2 := of_decide_eq_false c3
    wtm_at "go"
    intro p2 hp2
    have S9 := S8.new (o := .lst [.str (Str.ofString "when"), .str (Str.ofString "until")]) hp2
    wtm_at "go"
    obtain ⟨wd, mk, hj, e1, e2, e3, e4⟩ : ∃ (wd : Str) (mk : Asked → Con → Con), atI [D.str (Str.ofString "when"), .str (Str.ofString "until")] (v - 3) = some (.str wd) ∧ (∀ x y, (mk x y).d = .tup [.str wd, x.d, y.d]) ∧ (∀ x y, (mk x y).dp = y.dp + 1) ∧
        (∀ x y wd nms, (x.of nms ∧ x.dp ≤ 2 ∧ x.td ≤ 1) → y.of wd nms → (mk x y).of wd nms) ∧ (∀ x y, x.dp = 0 → y.ch → (mk x y).ch) := by
      have : v = 3 ∨ v = 4 := by omega
      rcases this with rfl | rfl
      · exact ⟨"when", .when, rfl, fun _ _ => rfl, fun _ _ => rfl, fun _ _ _ _ a b => ⟨a, b⟩, fun _ _ a b => ⟨a, b⟩⟩
      · exact ⟨"until", .till, rfl, fun _ _ => rfl, fun _ _ => rfl, fun _ _ _ _ a b => ⟨a, b⟩, fun _ _ a b => ⟨a, b⟩⟩
    refine i_subL (rd_L mput_same) hj ?_
    wtm_at "go"
    refine spAsked.mkS (dp := 0) S9 rfl (by omega) fun t2 s10 d2 td2 o2 n10 S10 => ?_
    wtm_at "go"
    rw [← e1]
    exact hK _ _ ⟨mk t2 c, s10, _, _, ⟨by rw [e2]; omega, e4 _ _ (by omega) hch⟩, rfl, e3 _ _ _ _ ⟨o2, by omega, td2⟩ hc, Dr.nx_trans n78 n10, S10⟩

/-! ### loose data: tuples, texts, numbers, lists, whatever they hold -/
inductive Kd (m : Mem) : D → Prop
  | non : Kd m .non
  | bl (b : Bool) : Kd m (.bl b)
  | int (i : Int) : Kd m (.int i)
  | str (x : Str) : x.length ≤ 1000 → PyData.strOk x = true → Kd m (.str x)
  | tup {ds : List D} : (∀ d ∈ ds, Kd m d) → (∀ d ∈ ds.head?, flD d = true) → Kd m (.tup ds)
  | lst {a : Addr} {ds : List D} : rdM m a = some (.lst ds) → (∀ d ∈ ds, Kd m d) → Kd m (.ref a)
theorem rdM_le {m m' : Mem} {a : Addr} {o : O} (s : Sub m m') (h : rdM m a = some o) : rdM m' a = some o := by
  unfold rdM at h ⊢
  cases e : m a with
  | none => rw [e] at h; cases h
  | some u => rw [e] at h; rw [s _ _ e]; exact h
theorem Kd.sub {m m' : Mem} (s : Sub m m') {d : D} (h : Kd m d) : Kd m' d := by
  induction h with
  | non => exact .non
  | bl b => exact .bl b
  | int i => exact .int i
  | str x h1 h2 => exact .str x h1 h2
  | tup _ h0 ih => exact .tup ih h0
  | lst e _ ih => exact .lst (rdM_le s e) ih
theorem Kd.tups {m : Mem} {ds : List D} (h : Kd m (.tup ds)) : ∀ d ∈ ds, Kd m d := by cases h; assumption
theorem Kd.hd {m : Mem} {x : D} {r : List D} (h : Kd m (.tup (x :: r))) : flD x = true := by cases h; rename_i h; exact h x rfl
theorem Kd.strs {m : Mem} {x : Str} (h : Kd m (.str x)) : x.length ≤ 1000 ∧ PyData.strOk x = true := by cases h; exact ⟨by assumption, by assumption⟩
theorem vwA_of {m : Mem} : ∀ {ds : List D}, (∀ d ∈ ds, ∃ t, Vw m d t ∧ t.canLay0 = true) → ∃ ts, VwA m ds ts ∧ PyData.canLayAll0 ts = true
  | [], _ => ⟨[], .nil, rfl⟩
  | d :: ds, h => by
    obtain ⟨t, h1, h2⟩ := h d (.head _)
    obtain ⟨ts, h3, h4⟩ := vwA_of fun x hx => h x (.tail _ hx)
    exact ⟨t :: ts, .cons h1 h3, by simp [PyData.canLayAll0, h2, h4]⟩
theorem Kd.vw {m : Mem} {d : D} (h : Kd m d) : ∃ t, Vw m d t ∧ t.canLay0 = true := by
  induction h with
  | non => exact ⟨_, .non, rfl⟩
  | bl b => exact ⟨_, .bl b, rfl⟩
  | int i => exact ⟨_, .int i, rfl⟩
  | str x h1 h2 => exact ⟨_, .str x, h2⟩
  | tup _ _ ih => obtain ⟨ts, h1, h2⟩ := vwA_of ih; exact ⟨_, .tup h1, h2⟩
  | lst e _ ih => obtain ⟨ts, h1, h2⟩ := vwA_of ih; exact ⟨_, .lst e h1, h2⟩
def isTy (T : String) : D → Bool
  | .non => isiB "NoneType" T
  | .bl _ => isiB "bool" T
  | .int _ => isiB "int" T
  | .str _ => isiB "str" T
  | .tup _ => isiB "tuple" T
  | .ref _ => isiB "list" T
  | .ty _ => false
theorem i_isiK {m : Mem} {Q : KM} {x : D} {T : String} (h : Kd m x) (hT : T ∈ tys) (q : Q (.bl (isTy T x)) m) : wIsi [x, .ty T] m Q := by
  cases h with
  | non => exact ⟨_, rfl, hT, q⟩
  | bl b => exact ⟨_, rfl, hT, q⟩
  | int i => exact ⟨_, rfl, hT, q⟩
  | str x h1 h2 => exact ⟨_, rfl, hT, q⟩
  | tup _ _ => exact ⟨_, rfl, hT, q⟩
  | @lst a ds e _ =>
    refine ⟨"list", ?_, hT, q⟩
    unfold rdM at e
    show (match m a with | some (.lst _) => some "list" | some (.dK _) => some "dict" | some (.dT _) => some "dict" | some (.frz (.lst _)) => some "list" | _ => none) = _
    cases c : m a with
    | none => rw [c] at e; cases e
    | some o =>
      rw [c] at e
      cases o with
      | frz o => cases e; rfl
      | lst l => rfl
      | dK l => cases e
      | dT l => cases e
      | ins C l => cases e
/-- beside a text -/
def isS (x : Str) : D → Bool
  | .str y => decide (y = x)
  | _ => false
theorem i_eqKS {m : Mem} {Q : KM} {d : D} {x : Str} (h : Kd m d) (hx : PyData.strOk x = true) (q : Q (.bl (isS x d)) m) : wEqM d (.str x) m Q := by
  obtain ⟨t, h1, h2⟩ := h.vw
  refine i_eqM (k := isS x d) (.inr ⟨t, .str x, h1, .str x, h2, hx, ?_, ?_⟩) q
  · exact Nat.le_trans (Nat.min_le_right _ _) (by show PyData.depth (.str x) ≤ 64; simp [PyData.depth])
  · cases h1 <;> first | rfl | skip
/-- the tuple of a word alone -/
theorem eqM_none {m : Mem} {x y : Str} {r : List D} (h : Kd m (.tup (.str x :: r))) (hy : PyData.strOk y = true) : EqM m (.tup (.str x :: r)) (.tup [.str y]) (decide (x = y) && r.isEmpty) := by
  obtain ⟨t, h1, h2⟩ := h.vw
  refine .inr ⟨t, .tuple [.str y], h1, .tup (.cons (.str y) .nil), h2, ?_, ?_, ?_⟩
  · simp [PyData.canLay0, PyData.canLayAll0, hy]
  · exact Nat.le_trans (Nat.min_le_right _ _) (by simp [PyData.depth, PyData.depthAll])
  · cases h1 with
    | tup h1 =>
      cases h1 with
      | cons h1 h3 =>
        cases h1
        cases h3 with
        | nil => by_cases e : x = y <;> simp [PyData.eqv, PyData.eqvAll, e]
        | cons _ _ => by_cases e : x = y <;> simp [PyData.eqv, PyData.eqvAll, e]
/-! ### what is right -/
def smallCps : List Nat := (Str.ofString "abcdefghijklmnopqrstuvwxyz").cps.toList
def okWord : D → Bool
  | .str x => decide (1 ≤ x.length ∧ x.length ≤ 8 ∧ ∀ c ∈ x.cps.toList, c ∈ smallCps)
  | _ => false
def okNum (l u : Int) : D → Bool
  | .int i => decide (l ≤ i) && decide (i ≤ u)
  | _ => false
def isJoin (x : Str) : Bool := decide (x = "plus") || decide (x = "minus") || decide (x = "times") || decide (x = "most") || decide (x = "least")
/-- at the depth 13 - n -/
def okTold : Nat → D → Bool
  | n + 1, .tup (.str x :: r) =>
    if x = "num" then (match r with | [a] => okNum (1 - 1000000000000) (1000000000000 - 1) a | _ => false)
    else if x = "read" then (match r with | [a] => okWord a | _ => false)
    else match r with | [a, b] => isJoin x && (okTold n a && okTold n b) | _ => false
  | _, _ => false
def okAsked : Nat → D → Bool
  | n + 1, .tup (.str x :: r) =>
    if x = "below" then (match r with | [a, b] => okTold n a && okTold n b | _ => false)
    else if x = "not" then (match r with | [a] => okAsked n a | _ => false)
    else match r with | [a, b] => (decide (x = "all") || decide (x = "any")) && (okAsked n a && okAsked n b) | _ => false
  | _, _ => false
def okSides : D → D → Bool
  | .str x, .str y => okWord (.str x) && okWord (.str y) && !decide (x = y)
  | _, _ => false
def okCon : Nat → D → Bool
  | n + 1, .tup (.str x :: r) =>
    if x = "give" then (match r with | [a, b, g, t] => okWord g && okSides a b && okTold n t | _ => false)
    else if x = "turned" then (match r with | [a, b, c] => okSides a b && okCon n c | _ => false)
    else if x = "later" then (match r with | [h, c] => okNum 0 99 h && okCon n c | _ => false)
    else if x = "often" then (match r with | [k, h, c] => okNum 1 9 k && okNum 1 99 h && okCon n c | _ => false)
    else if x = "if" then (match r with | [q, a, b] => okAsked n q && okCon n a && okCon n b | _ => false)
    else if x = "when" then (match r with | [q, a] => okAsked n q && okCon n a | _ => false)
    else if x = "until" then (match r with | [q, a] => okAsked n q && okCon n a | _ => false)
    else if x = "both" then (match r with | [a, b] => okCon n a && okCon n b | _ => false)
    else decide (x = "none") && r.isEmpty
  | _, _ => false
/-! ### that it is loose data, by forms -/
def KdA (m : Mem) (ds : List D) : Prop := ∀ d ∈ ds, Kd m d
theorem kdA_nil {m : Mem} : KdA m [] := fun _ h => (nomatch h)
theorem kdA_cons {m : Mem} {d : D} {ds : List D} (h : Kd m d) (r : KdA m ds) : KdA m (d :: ds) := fun x hx => by
  rcases List.mem_cons.mp hx with rfl | hx
  · exact h
  · exact r x hx
theorem kdA_app {m : Mem} {ds es : List D} (h : KdA m ds) (k : KdA m es) : KdA m (ds ++ es) := fun x hx => by
  rcases List.mem_append.mp hx with hx | hx
  · exact h x hx
  · exact k x hx
theorem kd_tup0 {m : Mem} : Kd m (.tup []) := .tup kdA_nil fun _ h => (nomatch h)
theorem kd_tup {m : Mem} {x : D} {ds : List D} (h0 : flD x = true) (h : KdA m (x :: ds)) : Kd m (.tup (x :: ds)) := .tup h fun d h => by cases h; exact h0
theorem KdA.mp {m : Mem} {L : List D} {d : D} (h : KdA m L) (hm : d ∈ L) : Kd m d := h d hm
theorem kd_pick {m : Mem} {L : List D} {r : Int} (h0 : 0 ≤ r) (h1 : r < L.length) (hk : KdA m L) : ∃ d, atI L r = some d ∧ Kd m d := by
  have hl : r.toNat < L.length := by omega
  obtain ⟨n, rfl⟩ : ∃ n : Nat, r = (n : Int) := ⟨r.toNat, by omega⟩
  exact ⟨L[n]'(by omega), atI_nat (List.getElem?_eq_getElem (by omega)), hk _ (List.getElem_mem _)⟩

/-! ### contracts that are refused -/
def gMust (C : Addr) : SpM := fun ds m Q E => match ds with
  | [.bl b] => if b = true then Q .non m else E C m
  | _ => False
theorem gMust_in {C : Addr} {b : Bool} {m : Mem} {Q : KM} {E : XM} (h : if b = true then Q .non m else E C m) : gMust C [.bl b] m Q E := h
structure Xcs (K : PySem.W.Frag) (mg : Str → Option Value) (c_BookError c_BadContract c_BadMarket c_TooMany c_BadText : Addr) : Prop where
  X_BookError : XcF K mg "BookError" c_BookError
  X_BadContract : XcF K mg "BadContract" c_BadContract
  X_BadMarket : XcF K mg "BadMarket" c_BadMarket
  X_TooMany : XcF K mg "TooMany" c_TooMany
  X_BadText : XcF K mg "BadText" c_BadText
  e_BadContract : PySem.W.exmOne K (.ref c_BadContract) (.ref c_BookError) = some true
  v_BadContract : PySem.W.kitOne K (.ref c_BadContract) (.type "ValueError") = some true
  k_BadContract_BookError : PySem.W.kitOne K (.ref c_BadContract) (.ref c_BookError) = some true
  k_BadContract_BadContract : PySem.W.kitOne K (.ref c_BadContract) (.ref c_BadContract) = some true
  k_BadContract_BadMarket : PySem.W.kitOne K (.ref c_BadContract) (.ref c_BadMarket) = some false
  k_BadContract_TooMany : PySem.W.kitOne K (.ref c_BadContract) (.ref c_TooMany) = some false
  k_BadContract_BadText : PySem.W.kitOne K (.ref c_BadContract) (.ref c_BadText) = some false
  e_BadMarket : PySem.W.exmOne K (.ref c_BadMarket) (.ref c_BookError) = some true
  v_BadMarket : PySem.W.kitOne K (.ref c_BadMarket) (.type "ValueError") = some true
  k_BadMarket_BookError : PySem.W.kitOne K (.ref c_BadMarket) (.ref c_BookError) = some true
  k_BadMarket_BadContract : PySem.W.kitOne K (.ref c_BadMarket) (.ref c_BadContract) = some false
  k_BadMarket_BadMarket : PySem.W.kitOne K (.ref c_BadMarket) (.ref c_BadMarket) = some true
  k_BadMarket_TooMany : PySem.W.kitOne K (.ref c_BadMarket) (.ref c_TooMany) = some false
  k_BadMarket_BadText : PySem.W.kitOne K (.ref c_BadMarket) (.ref c_BadText) = some false
  e_TooMany : PySem.W.exmOne K (.ref c_TooMany) (.ref c_BookError) = some true
  v_TooMany : PySem.W.kitOne K (.ref c_TooMany) (.type "ValueError") = some true
  k_TooMany_BookError : PySem.W.kitOne K (.ref c_TooMany) (.ref c_BookError) = some true
  k_TooMany_BadContract : PySem.W.kitOne K (.ref c_TooMany) (.ref c_BadContract) = some false
  k_TooMany_BadMarket : PySem.W.kitOne K (.ref c_TooMany) (.ref c_BadMarket) = some false
  k_TooMany_TooMany : PySem.W.kitOne K (.ref c_TooMany) (.ref c_TooMany) = some true
  k_TooMany_BadText : PySem.W.kitOne K (.ref c_TooMany) (.ref c_BadText) = some false
  e_BadText : PySem.W.exmOne K (.ref c_BadText) (.ref c_BookError) = some true
  v_BadText : PySem.W.kitOne K (.ref c_BadText) (.type "ValueError") = some true
  k_BadText_BookError : PySem.W.kitOne K (.ref c_BadText) (.ref c_BookError) = some true
  k_BadText_BadContract : PySem.W.kitOne K (.ref c_BadText) (.ref c_BadContract) = some false
  k_BadText_BadMarket : PySem.W.kitOne K (.ref c_BadText) (.ref c_BadMarket) = some false
  k_BadText_TooMany : PySem.W.kitOne K (.ref c_BadText) (.ref c_TooMany) = some false
  k_BadText_BadText : PySem.W.kitOne K (.ref c_BadText) (.ref c_BadText) = some true
abbrev s_must : Stmt := topS 14
theorem sc_must : FnScope ["good"] ["good"] (defScope s_must) := ⟨rfl, rfl, rfl, by decide +kernel, rfl, by decide +kernel, by decide +kernel⟩
theorem gok_must {k : Nat} {c_BookError c_BadContract c_BadMarket c_TooMany c_BadText : Addr} (XE : Xcs K mg c_BookError c_BadContract c_BadMarket c_TooMany c_BadText) {f_must : Addr} {fd_must : FuncData} (F : Fun K "must" "must" s_must f_must fd_must) : FnM P w K mg base (L2.CX P w) (k + 1) f_must fd_must ["good"] (gMust c_BadContract) := by
  refine fn_mX F sc_must (fun ds m Q E h => ?_) (fun cdv A outer s H ds m Q E E' hr h hw => ?_)
  · unfold gMust at h; split at h
    · rfl
    · exact h.elim
  have nd := sc_must.nd
  unfold gMust at h; split at h
  · rename_i b
    refine ⟨_, (mss_one (ms_if (mt_not (mt_val (mv 0))) (mss_one (ms_raise rfl (takes_of rfl rfl rfl rfl) hw (pmk_own PySem.F.excBase_ValueError XE.X_BadContract.q XE.X_BadContract.g XE.X_BadContract.k XE.X_BadContract.raises rfl))) mss_nil)), ?_⟩
    cases b with
    | true => wtm_at "go"
    | false => wtm_at "go"
  · exact h.elim
def gNum (C : Addr) : SpM := fun ds m Q E => ∃ (d : D) (l u : Int), ds = [d, .int l, .int u] ∧ Kd m d ∧ if okNum l u d = true then Q .non m else E C m
local macro_rules | `(tactic| wtm_at "dec") => `(tactic| (simp [isTy, isiB]; done))
local macro_rules | `(tactic| wtm_at "dec") => `(tactic| first | with_reducible rfl | (simp only [isN, ofString_inj, decide_eq_true_eq, decide_eq_false_iff_not, String.reduceEq, reduceCtorEq, not_false_eq_true, decide_true, decide_false, Bool.not_true, Bool.not_false, Bool.not_eq_true', Bool.not_eq_false', Int.reduceLT, Int.reduceLE, Int.reduceEq]; done) | (decide) | (simp; done) | fail)
local macro_rules | `(tactic| wtm_at "one") => `(tactic| first | (with_reducible refine gMust_in ?_) | ((with_reducible apply i_isiK); (focus assumption); (focus decide)))
local macro_rules | `(tactic| wtm_at "kdt") => `(tactic| (repeat' first | with_reducible assumption | with_reducible exact kdA_nil | with_reducible refine kdA_cons ?_ ?_ | with_reducible refine kdA_app ?_ ?_ | with_reducible exact Kd.non | with_reducible exact Kd.int _ | with_reducible exact Kd.bl _ | with_reducible exact kd_tup0 | ((with_reducible refine kd_tup ?_ ?_); (focus rfl)) | (refine Kd.str _ ?_ ?_ <;> decide +kernel)))
abbrev s_need_number : Stmt := topS 16
theorem sc_need_number : FnScope ["number", "least", "most"] ["number", "least", "most"] (defScope s_need_number) := ⟨rfl, rfl, rfl, by decide +kernel, rfl, by decide +kernel, by decide +kernel⟩
theorem gok_need_number {k : Nat} (Z : Bl mg) {c : Addr} {f_must : Addr} {fd_must : FuncData} (D_must : Df K mg "must" f_must fd_must ["good"]) (G_must : FnM P w K mg base (L2.CX P w) (k) f_must fd_must ["good"] (gMust c)) {f_need_number : Addr} {fd_need_number : FuncData} (F : Fun K "need_number" "need_number" s_need_number f_need_number fd_need_number) : FnM P w K mg base (L2.CX P w) (k + 1) f_need_number fd_need_number ["number", "least", "most"] (gNum c) := by
  refine fn_mX F sc_need_number (fun ds m Q E h => ?_) (fun cdv A outer s H ds m Q E E' hr h hw => ?_)
  · obtain ⟨d, l, u, rfl, _⟩ := h; rfl
  have nd := sc_need_number.nd
  obtain ⟨d, l, u, rfl, hk, q⟩ := h
  have hE : okNum l u d = false → E c m := fun e => by rw [e] at q; exact q
  have hQ : okNum l u d = true → RtM Q .non m := fun e => by rw [e] at q; exact RtM.mk q
  clear q
  refine ⟨_, (mss_cons (ms_expr (mx_call (Em := E) G_must hr D_must.m D_must.k D_must.b (passM (takes_of rfl rfl rfl rfl) hw) (ma_cons (mx_and (mx_callB mc_isinstance2 Z.b_isinstance (ma_cons (mv 0) (ma_cons (mx_ty (T := "int") Z.b_int) ma_nil))) (mx_one (mx_not (mx_callB mc_isinstance2 Z.b_isinstance (ma_cons (mv 0) (ma_cons (mx_ty (T := "bool") Z.b_bool) ma_nil)))))) ma_nil)))
    (mss_one (ms_expr (mx_call (Em := E) G_must hr D_must.m D_must.k D_must.b (passM (takes_of rfl rfl rfl rfl) hw) (ma_cons (mx_chain mo_le mo_le (mv 1) (mv 0) (mv 2)) ma_nil))))), ?_⟩
  cases d with
  | int i =>
    wtm_at "go"
    refine i_ite (fun h1 => ?_) (fun h1 => ?_)
    · have h1 : l ≤ i := of_decide_eq_true h1
      wtm_at "go"
      refine i_ite (fun h2 => ?_) (fun h2 => ?_)
      · exact hQ (by simp [okNum, h1, of_decide_eq_true h2])
      · exact hE (by simp [okNum, of_decide_eq_false h2])
    · have h1 := of_decide_eq_false h1
      wtm_at "go"
      exact hE (by simp [okNum, h1])
  | _ => wtm_at "go"; exact hE rfl
def okTup (deep : Int) : D → Bool
  | .tup (.str _ :: _) => decide (deep ≤ 12)
  | _ => false
def gTup (C : Addr) : SpM := fun ds m Q E => ∃ (d : D) (deep : Int), ds = [d, .int deep] ∧ Kd m d ∧ if okTup deep d = true then Q .non m else E C m
abbrev s_need_tuple : Stmt := topS 17
theorem sc_need_tuple : FnScope ["told", "deep"] ["told", "deep"] (defScope s_need_tuple) := ⟨rfl, rfl, rfl, by decide +kernel, rfl, by decide +kernel, by decide +kernel⟩
theorem gok_need_tuple {k : Nat} (V : Gv K mg) (Z : Bl mg) {c : Addr} {f_must : Addr} {fd_must : FuncData} (D_must : Df K mg "must" f_must fd_must ["good"]) (G_must : FnM P w K mg base (L2.CX P w) (k) f_must fd_must ["good"] (gMust c)) {f_need_tuple : Addr} {fd_need_tuple : FuncData} (F : Fun K "need_tuple" "need_tuple" s_need_tuple f_need_tuple fd_need_tuple) : FnM P w K mg base (L2.CX P w) (k + 1) f_need_tuple fd_need_tuple ["told", "deep"] (gTup c) := by
  refine fn_mX F sc_need_tuple (fun ds m Q E h => ?_) (fun cdv A outer s H ds m Q E E' hr h hw => ?_)
  · obtain ⟨d, deep, rfl, _⟩ := h; rfl
  have nd := sc_need_tuple.nd
  obtain ⟨d, deep, rfl, hk, q⟩ := h
  have hE : okTup deep d = false → E c m := fun e => by rw [e] at q; exact q
  have hQ : okTup deep d = true → RtM Q .non m := fun e => by rw [e] at q; exact RtM.mk q
  clear q
  refine ⟨_, (mss_one (ms_expr (mx_call (Em := E) G_must hr D_must.m D_must.k D_must.b (passM (takes_of rfl rfl rfl rfl) hw) (ma_cons (mx_and (mx_callB mc_isinstance2 Z.b_isinstance (ma_cons (mv 0) (ma_cons (mx_ty (T := "tuple") Z.b_tuple) ma_nil))) (mx_and (mx_cmp mo_gt (mx_callB mc_len1 Z.b_len (ma_cons (mv 0) ma_nil)) mx_int (nomark _)) (mx_and (mx_callB mc_isinstance2 Z.b_isinstance (ma_cons (mx_ix (mi_sub hr) (mv 0) mx_int) (ma_cons (mx_ty (T := "str") Z.b_str) ma_nil))) (mx_one (mx_cmp mo_le (mv 1) (mx_gt V.MOST_DEEP) (nomark _)))))) ma_nil)))), ?_⟩
  cases d with
  | tup r =>
    cases r with
    | nil => wtm_at "go"; exact hE rfl
    | cons x r =>
      have hx := hk.tups x (.head _)
      wtm_at "go"
      cases x with
      | str x =>
        wtm_at "go"
        refine i_ite (fun h => ?_) (fun h => ?_)
        · exact hQ h
        · exact hE h
      | _ => wtm_at "go"; exact hE rfl
  | _ => wtm_at "go"; exact hE rfl
def gWord : SpM := fun ds m Q _ => ∃ d : D, ds = [d] ∧ Kd m d ∧ Q (.bl (okWord d)) m
abbrev s_is_word : Stmt := topS 15
theorem sc_is_word : FnScope ["word", "sign"] ["word"] (defScope s_is_word) := ⟨rfl, rfl, rfl, by decide +kernel, rfl, by decide +kernel, by decide +kernel⟩
theorem gok_is_word {k : Nat} (V : Gv K mg) (Z : Bl mg) {f_is_word : Addr} {fd_is_word : FuncData} (F : Fun K "is_word" "is_word" s_is_word f_is_word fd_is_word) : FnM P w K mg base CX0 (k + 1) f_is_word fd_is_word ["word"] (gWord) := by
  refine fn_m F sc_is_word (fun ds m Q E h => ?_) (fun cdv A outer s H ds m Q E E' hr h => ?_)
  · obtain ⟨x, rfl, _⟩ := h; rfl
  have nd := sc_is_word.nd
  obtain ⟨d, rfl, hk, q⟩ := h
  refine ⟨_, (mss_one (ms_ret (mx_and (mx_callB mc_isinstance2 Z.b_isinstance (ma_cons (mv 0) (ma_cons (mx_ty (T := "str") Z.b_str) ma_nil))) (mx_and (mx_chain mo_le mo_le mx_int (mx_callB mc_len1 Z.b_len (ma_cons (mv 0) ma_nil)) mx_int) (mx_one (mx_callB mc_all1 Z.b_all (ma_cons (mx_lc (own := [("sign", 1)]) rfl nd (mi_str (mv 0)) (blkOk_by (by show blkC ["word", "sign"] (defScope s_is_word) _ _ = true; decide +kernel)) (fun _ _ _ _ _ => (pg_name (i := 1) nd rfl (Or.inl rfl))) (gok_name (i := 1) (by decide)) (fun _ _ _ _ _ => mts_nil) (fun _ _ _ _ _ => (mx_cmp (mo_in hr) (mv 1) (mx_gt V.SMALL) rfl))) ma_nil))))))), ?_⟩
  cases d with
  | str x =>
    have sz : x.length ≤ sizeLine := sl hk.strs.1
    wtm_at "go"
    refine i_lenS sz ?_
    wtm_at "go"
    by_cases h1 : 1 ≤ x.length
    · rw [decide_eq_true (show (1 : Int) ≤ (x.length : Int) by omega)]
      wtm_at "go"
      by_cases h2 : x.length ≤ 8
      · rw [decide_eq_true (show (x.length : Int) ≤ 8 by omega)]
        wtm_at "go"
        have len8 : (signsD x).length ≤ 8 := by unfold signsD; rw [List.length_map, Array.length_toList]; exact h2
        refine ⟨.str x, rfl, x, rfl, ?_⟩
        refine lcC_pure (fun d => .bl (match d with | .str y => decide (∃ c ∈ y.cps.toList, c ∈ smallCps) | _ => false)) (sl (by omega)) trivial ?_ ?_
        · intro d hd R hR
          obtain ⟨c, hc, rfl⟩ := List.mem_map.mp hd
          refine ⟨rfl, ?_⟩
          wtm_at "go"
          refine i_in in_sign ?_
          have e : (decide (c ∈ (Str.ofString "abcdefghijklmnopqrstuvwxyz").cps.toList)) = decide (∃ c' ∈ (⟨#[c]⟩ : Str).cps.toList, c' ∈ smallCps) := by
            congr 1; simp [smallCps]
          rw [e]
          exact hR
        intro p hp
        wtm_at "go"
        refine ⟨x.cps.toList.map fun c => decide (c ∈ smallCps), rd_L (by
          rw [mput_same]; unfold signsD; rw [List.map_map, List.map_map]
          congr 2; exact List.map_congr_left fun c _ => by simp), ?_⟩
        refine RtM.sub (Sub.refl.new hp) ?_
        rw [show (x.cps.toList.map fun c => decide (c ∈ smallCps)).all id = okWord (.str x) by
          unfold okWord
          rw [Bool.eq_iff_iff, List.all_eq_true, decide_eq_true_iff]
          constructor
          · intro h; exact ⟨h1, h2, fun c hc => of_decide_eq_true (h _ (List.mem_map.mpr ⟨c, hc, rfl⟩))⟩
          · rintro ⟨_, _, h⟩ b hb
            obtain ⟨c, hc, rfl⟩ := List.mem_map.mp hb
            exact decide_eq_true (h c hc)]
        exact q
      · rw [decide_eq_false (show ¬ (x.length : Int) ≤ 8 by omega)]
        rw [show okWord (.str x) = false by unfold okWord; exact decide_eq_false fun z => h2 z.2.1] at q
        wtm_at "go"
    · rw [decide_eq_false (show ¬ (1 : Int) ≤ (x.length : Int) by omega)]
      rw [show okWord (.str x) = false by unfold okWord; exact decide_eq_false fun z => h1 z.1] at q
      wtm_at "go"
  | _ => wtm_at "go"
def gSides (C : Addr) : SpM := fun ds m Q E => ∃ x y : D, ds = [x, y] ∧ Kd m x ∧ Kd m y ∧ if okSides x y = true then Q .non m else E C m
abbrev s_need_sides : Stmt := topS 20
theorem sc_need_sides : FnScope ["one", "other"] ["one", "other"] (defScope s_need_sides) := ⟨rfl, rfl, rfl, by decide +kernel, rfl, by decide +kernel, by decide +kernel⟩
theorem gok_need_sides {k : Nat} {c : Addr} {f_must : Addr} {fd_must : FuncData} (D_must : Df K mg "must" f_must fd_must ["good"]) (G_must : FnM P w K mg base (L2.CX P w) (k) f_must fd_must ["good"] (gMust c)) {f_is_word : Addr} {fd_is_word : FuncData} (D_is_word : Df K mg "is_word" f_is_word fd_is_word ["word"]) (G_is_word : FnM P w K mg base CX0 (k) f_is_word fd_is_word ["word"] (gWord)) {f_need_sides : Addr} {fd_need_sides : FuncData} (F : Fun K "need_sides" "need_sides" s_need_sides f_need_sides fd_need_sides) : FnM P w K mg base (L2.CX P w) (k + 1) f_need_sides fd_need_sides ["one", "other"] (gSides c) := by
  refine fn_mX F sc_need_sides (fun ds m Q E h => ?_) (fun cdv A outer s H ds m Q E E' hr h hw => ?_)
  · obtain ⟨x, y, rfl, _⟩ := h; rfl
  have nd := sc_need_sides.nd
  obtain ⟨x, y, rfl, hx, hy, q⟩ := h
  have hE : okSides x y = false → E c m := fun e => by rw [e] at q; exact q
  have hQ : okSides x y = true → RtM Q .non m := fun e => by rw [e] at q; exact RtM.mk q
  clear q
  refine ⟨_, (mss_one (ms_expr (mx_call (Em := E) G_must hr D_must.m D_must.k D_must.b (passM (takes_of rfl rfl rfl rfl) hw) (ma_cons (mx_and (mx_call (Em := noX) G_is_word hr D_is_word.m D_is_word.k D_is_word.b pass0M (ma_cons (mv 0) ma_nil)) (mx_and (mx_call (Em := noX) G_is_word hr D_is_word.m D_is_word.k D_is_word.b pass0M (ma_cons (mv 1) ma_nil)) (mx_one (mx_cmp (mo_neq hr) (mv 0) (mv 1) (nomark _))))) ma_nil)))), ?_⟩
  wtm_at "go"
  refine ⟨x, rfl, hx, ?_⟩
  wtm_at "go"
  refine i_ite (fun h1 => ?_) (fun h1 => ?_)
  · cases x with
    | str x =>
      wtm_at "go"
      refine ⟨y, rfl, hy, ?_⟩
      wtm_at "go"
      refine i_ite (fun h2 => ?_) (fun h2 => ?_)
      · cases y with
        | str y =>
          wtm_at "go"
          refine i_ite (fun h => ?_) (fun h => ?_)
          · exact hQ (by simp [okSides, h1, h2]; simpa using h)
          · exact hE (by simp [okSides, h1, h2]; simpa using h)
        | _ => cases h2
      · wtm_at "go"
        exact hE (by cases y <;> simp_all [okSides])
    | _ => cases h1
  · wtm_at "go"
    exact hE (by cases x <;> cases y <;> simp_all [okSides])

local macro_rules | `(tactic| wtm_at "dec") => `(tactic| (simp; omega))
local macro_rules | `(tactic| wtm_at "dec") => `(tactic| (simp [isTy, isiB]; done))
local macro_rules | `(tactic| wtm_at "dec") => `(tactic| first | with_reducible rfl | (simp only [isN, ofString_inj, decide_eq_true_eq, decide_eq_false_iff_not, String.reduceEq, reduceCtorEq, not_false_eq_true, decide_true, decide_false, Bool.not_true, Bool.not_false, Bool.not_eq_true', Bool.not_eq_false', Int.reduceLT, Int.reduceLE, Int.reduceEq]; done) | (decide) | (simp; done) | fail)
local macro_rules | `(tactic| wtm_at "one") => `(tactic| first | (with_reducible refine gMust_in ?_) | ((with_reducible apply i_isiK); (focus assumption); (focus decide)))
local macro_rules | `(tactic| wtm_at "kdt") => `(tactic| (repeat' first | with_reducible assumption | with_reducible exact kdA_nil | with_reducible refine kdA_cons ?_ ?_ | with_reducible refine kdA_app ?_ ?_ | with_reducible exact Kd.non | with_reducible exact Kd.int _ | with_reducible exact Kd.bl _ | with_reducible exact kd_tup0 | ((with_reducible refine kd_tup ?_ ?_); (focus rfl)) | (refine Kd.str _ ?_ ?_ <;> decide +kernel)))
theorem okTup_iff {deep : Int} {d : D} : okTup deep d = true ↔ (∃ x r, d = .tup (.str x :: r)) ∧ deep ≤ 12 := by
  unfold okTup
  split
  · rename_i x r; exact ⟨fun h => ⟨⟨x, r, rfl⟩, of_decide_eq_true h⟩, fun h => decide_eq_true h.2⟩
  · rename_i h; exact ⟨fun z => (nomatch z), fun ⟨⟨x, r, e⟩, _⟩ => (h x r e).elim⟩
theorem okTold_sh {n : Nat} {d : D} (h : okTold n d = true) : (∃ x r, d = .tup (.str x :: r)) ∧ 0 < n := by
  unfold okTold at h; split at h
  · exact ⟨⟨_, _, rfl⟩, Nat.succ_pos _⟩
  · cases h
theorem okAsked_sh {n : Nat} {d : D} (h : okAsked n d = true) : (∃ x r, d = .tup (.str x :: r)) ∧ 0 < n := by
  unfold okAsked at h; split at h
  · exact ⟨⟨_, _, rfl⟩, Nat.succ_pos _⟩
  · cases h
theorem okCon_sh {n : Nat} {d : D} (h : okCon n d = true) : (∃ x r, d = .tup (.str x :: r)) ∧ 0 < n := by
  unfold okCon at h; split at h
  · exact ⟨⟨_, _, rfl⟩, Nat.succ_pos _⟩
  · cases h
/-- a family of promises: of the data at the depth 13 - n -/
def gFam (ok : Nat → D → Bool) (C : Addr) : Nat → SpM
  | 0 => fun _ _ _ _ => False
  | n + 1 => fun ds m Q E => ∃ (d : D) (deep : Int), ds = [d, .int deep] ∧ Kd m d ∧ deep = 13 - (n : Int) ∧ if ok n d = true then Q .non m else E C m
theorem eqF_any {x : Str} : ∀ {l : List Str}, ((l.map D.str).any fun z => eqF z (.str x)) = l.any fun y => decide (x = y)
  | [] => rfl
  | y :: l => by
    simp only [List.map_cons, List.any_cons, eqF_any]
    congr 1
    show (y == x) = decide (x = y)
    by_cases e : x = y
    · subst e; simp
    · rw [decide_eq_false e]; exact beq_eq_false_iff_ne.mpr fun z => e z.symm
theorem joins_any {x : Str} : ([D.str "plus", .str "minus", .str "times", .str "most", .str "least"].any fun z => eqF z (.str x)) = isJoin x := by
  have := eqF_any (x := x) (l := ["plus", "minus", "times", "most", "least"])
  exact this.trans (by simp [isJoin, Bool.or_assoc])
abbrev s_need_told : Stmt := topS 18
theorem sc_need_told : FnScope ["told", "deep"] ["told", "deep"] (defScope s_need_told) := ⟨rfl, rfl, rfl, by decide +kernel, rfl, by decide +kernel, by decide +kernel⟩
theorem gok_need_told {k n : Nat} (V : Gv K mg) (Z : Bl mg) {c : Addr} {f_must : Addr} {fd_must : FuncData} (D_must : Df K mg "must" f_must fd_must ["good"]) (G_must : FnM P w K mg base (L2.CX P w) (k) f_must fd_must ["good"] (gMust c)) {f_need_tuple : Addr} {fd_need_tuple : FuncData} (D_need_tuple : Df K mg "need_tuple" f_need_tuple fd_need_tuple ["told", "deep"]) (G_need_tuple : FnM P w K mg base (L2.CX P w) (k) f_need_tuple fd_need_tuple ["told", "deep"] (gTup c)) {f_need_number : Addr} {fd_need_number : FuncData} (D_need_number : Df K mg "need_number" f_need_number fd_need_number ["number", "least", "most"]) (G_need_number : FnM P w K mg base (L2.CX P w) (k) f_need_number fd_need_number ["number", "least", "most"] (gNum c)) {f_is_word : Addr} {fd_is_word : FuncData} (D_is_word : Df K mg "is_word" f_is_word fd_is_word ["word"]) (G_is_word : FnM P w K mg base CX0 (k) f_is_word fd_is_word ["word"] (gWord)) {f_need_told : Addr} {fd_need_told : FuncData} (D_need_told : Df K mg "need_told" f_need_told fd_need_told ["told", "deep"]) (G_need_told : FnM P w K mg base (L2.CX P w) (k) f_need_told fd_need_told ["told", "deep"] (gFam okTold c n)) (F : Fun K "need_told" "need_told" s_need_told f_need_told fd_need_told) : FnM P w K mg base (L2.CX P w) (k + 1) f_need_told fd_need_told ["told", "deep"] (gFam okTold c (n + 1)) := by
  refine fn_mX F sc_need_told (fun ds m Q E h => ?_) (fun cdv A outer s H ds m Q E E' hr h hw => ?_)
  · obtain ⟨t, deep, rfl, _⟩ := h; rfl
  have nd := sc_need_told.nd
  obtain ⟨d, deep, rfl, hk, hd, q⟩ := h
  have hE : okTold n d = false → E c m := fun e => by rw [e] at q; exact q
  have hQ : okTold n d = true → RtM Q .non m := fun e => by rw [e] at q; exact RtM.mk q
  clear q
  refine ⟨_, (mss_cons (ms_expr (mx_call (Em := E) G_need_tuple hr D_need_tuple.m D_need_tuple.k D_need_tuple.b (passM (takes_of rfl rfl rfl rfl) hw) (ma_cons (mv 0) (ma_cons (mv 1) ma_nil))))
    (mss_one (ms_if (mt_cmp (mo_eqq hr) (mx_ix (mi_sub hr) (mv 0) mx_int) mx_str (nomark _)) (mss_cons (ms_expr (mx_call (Em := E) G_must hr D_must.m D_must.k D_must.b (passM (takes_of rfl rfl rfl rfl) hw) (ma_cons (mx_cmp (mo_eqq hr) (mx_callB mc_len1 Z.b_len (ma_cons (mv 0) ma_nil)) mx_int (nomark _)) ma_nil)))
    (mss_one (ms_expr (mx_call (Em := E) G_need_number hr D_need_number.m D_need_number.k D_need_number.b (passM (takes_of rfl rfl rfl rfl) hw) (ma_cons (mx_ix (mi_sub hr) (mv 0) mx_int) (ma_cons (mx_op mo_sub mx_int (mx_gt V.GREATEST)) (ma_cons (mx_op mo_sub (mx_gt V.GREATEST) mx_int) ma_nil))))))) (mss_one (ms_if (mt_cmp (mo_eqq hr) (mx_ix (mi_sub hr) (mv 0) mx_int) mx_str (nomark _)) (mss_one (ms_expr (mx_call (Em := E) G_must hr D_must.m D_must.k D_must.b (passM (takes_of rfl rfl rfl rfl) hw) (ma_cons (mx_and (mx_cmp (mo_eqq hr) (mx_callB mc_len1 Z.b_len (ma_cons (mv 0) ma_nil)) mx_int (nomark _)) (mx_one (mx_call (Em := noX) G_is_word hr D_is_word.m D_is_word.k D_is_word.b pass0M (ma_cons (mx_ix (mi_sub hr) (mv 0) mx_int) ma_nil)))) ma_nil)))) (mss_cons (ms_expr (mx_call (Em := E) G_must hr D_must.m D_must.k D_must.b (passM (takes_of rfl rfl rfl rfl) hw) (ma_cons (mx_and (mx_cmp (mo_in hr) (mx_ix (mi_sub hr) (mv 0) mx_int) (mx_gt V.JOINS) rfl) (mx_one (mx_cmp (mo_eqq hr) (mx_callB mc_len1 Z.b_len (ma_cons (mv 0) ma_nil)) mx_int (nomark _)))) ma_nil)))
    (mss_cons (ms_expr (mx_call (Em := E) G_need_told hr D_need_told.m D_need_told.k D_need_told.b (passM (takes_of rfl rfl rfl rfl) hw) (ma_cons (mx_ix (mi_sub hr) (mv 0) mx_int) (ma_cons (mx_op mo_plus (mv 1) mx_int) ma_nil))))
    (mss_one (ms_expr (mx_call (Em := E) G_need_told hr D_need_told.m D_need_told.k D_need_told.b (passM (takes_of rfl rfl rfl rfl) hw) (ma_cons (mx_ix (mi_sub hr) (mv 0) mx_int) (ma_cons (mx_op mo_plus (mv 1) mx_int) ma_nil)))))))))))), ?_⟩
  wtm_at "go"
  refine ⟨d, deep, rfl, hk, ?_⟩
  refine i_ite (fun h1 => ?_) (fun h1 => ?_)
  · obtain ⟨⟨x, r, rfl⟩, h12⟩ := okTup_iff.mp h1
    have hr' : ∀ y ∈ r, Kd m y := fun y hy => hk.tups y (.tail _ hy)
    obtain ⟨n, rfl⟩ : ∃ n', n = n' + 1 := ⟨n - 1, by omega⟩
    wtm_at "go"
    refine i_ite (fun h2 => ?_) (fun h2 => ?_)
    · have h2 := of_decide_eq_true h2; subst h2
      rcases r with _ | ⟨a, _ | ⟨b, l⟩⟩
      · wtm_at "go"; exact hE rfl
      · wtm_at "go"
        refine ⟨a, _, _, rfl, hr' a (.head _), ?_⟩
        refine i_ite (fun h => ?_) (fun h => hE (by simp only [okTold, if_true]; exact h))
        wtm_at "go"
        exact hQ (by simp only [okTold, if_true]; exact h)
      · wtm_at "go"; exact hE rfl
    · have h2 := of_decide_eq_false h2
      wtm_at "go"
      refine i_ite (fun h3 => ?_) (fun h3 => ?_)
      · have h3 := of_decide_eq_true h3; subst h3
        rcases r with _ | ⟨a, _ | ⟨b, l⟩⟩
        · wtm_at "go"; exact hE (by simp [okTold, h2])
        · wtm_at "go"
          refine ⟨a, rfl, hr' a (.head _), ?_⟩
          wtm_at "go"
          refine i_ite (fun h => ?_) (fun h => hE (by simp [okTold, h2]; exact h))
          exact hQ (by simp [okTold, h2]; exact h)
        · wtm_at "go"; exact hE (by simp [okTold, h2])
      · have h3 := of_decide_eq_false h3
        wtm_at "go"
        refine i_in (in_tup rfl rfl) ?_
        rw [joins_any]
        wtm_at "go"
        refine i_ite (fun h4 => ?_) (fun h4 => ?_)
        · rcases r with _ | ⟨a, _ | ⟨b, _ | ⟨u, l⟩⟩⟩
          · wtm_at "go"; exact hE (by simp [okTold, h2, h3])
          · wtm_at "go"; exact hE (by simp [okTold, h2, h3])
          · wtm_at "go"
            refine ⟨a, _, rfl, hr' a (by simp), by omega, ?_⟩
            refine i_ite (fun h => ?_) (fun h => hE (by simp [okTold, h2, h3, h]))
            wtm_at "go"
            refine ⟨b, _, rfl, hr' b (by simp), by omega, ?_⟩
            refine i_ite (fun h' => ?_) (fun h' => hE (by simp [okTold, h2, h3, h']))
            exact hQ (by simp [okTold, h2, h3, h4, h, h'])
          · wtm_at "go"; exact hE (by simp [okTold, h2, h3])
        · wtm_at "go"
          exact hE (by simp only [okTold, if_neg h2, if_neg h3]; split <;> simp_all)
  · refine hE (Bool.eq_false_iff.mpr fun h => ?_)
    obtain ⟨h2, h3⟩ := okTold_sh h
    rw [okTup_iff.mpr ⟨h2, by omega⟩] at h1; cases h1
theorem gfin_need_told {c : Nat} (V : Gv K mg) (Z : Bl mg) {C : Addr} {f_must : Addr} {fd_must : FuncData} (D_must : Df K mg "must" f_must fd_must ["good"]) (G_must : FnM P w K mg base (L2.CX P w) (c) f_must fd_must ["good"] (gMust C)) {f_need_tuple : Addr} {fd_need_tuple : FuncData} (D_need_tuple : Df K mg "need_tuple" f_need_tuple fd_need_tuple ["told", "deep"]) (G_need_tuple : FnM P w K mg base (L2.CX P w) (c) f_need_tuple fd_need_tuple ["told", "deep"] (gTup C)) {f_need_number : Addr} {fd_need_number : FuncData} (D_need_number : Df K mg "need_number" f_need_number fd_need_number ["number", "least", "most"]) (G_need_number : FnM P w K mg base (L2.CX P w) (c) f_need_number fd_need_number ["number", "least", "most"] (gNum C)) {f_is_word : Addr} {fd_is_word : FuncData} (D_is_word : Df K mg "is_word" f_is_word fd_is_word ["word"]) (G_is_word : FnM P w K mg base CX0 (c) f_is_word fd_is_word ["word"] (gWord)) {f_need_told : Addr} {fd_need_told : FuncData} (D_need_told : Df K mg "need_told" f_need_told fd_need_told ["told", "deep"]) (F : Fun K "need_told" "need_told" s_need_told f_need_told fd_need_told) : ∀ n, FnM P w K mg base (L2.CX P w) (c + n) f_need_told fd_need_told ["told", "deep"] (gFam okTold C n)
  | 0 => fn_none fun ds m Q E h => h
  | n + 1 => gok_need_told V Z D_must (G_must.mono (Nat.le_add_right c n)) D_need_tuple (G_need_tuple.mono (Nat.le_add_right c n)) D_need_number (G_need_number.mono (Nat.le_add_right c n)) D_is_word (G_is_word.mono (Nat.le_add_right c n)) D_need_told (gfin_need_told V Z D_must G_must D_need_tuple G_need_tuple D_need_number G_need_number D_is_word G_is_word D_need_told F n) F

local macro_rules | `(tactic| wtm_at "dec") => `(tactic| (simp; omega))
local macro_rules | `(tactic| wtm_at "dec") => `(tactic| (simp [isTy, isiB]; done))
local macro_rules | `(tactic| wtm_at "dec") => `(tactic| first | with_reducible rfl | (simp only [isN, ofString_inj, decide_eq_true_eq, decide_eq_false_iff_not, String.reduceEq, reduceCtorEq, not_false_eq_true, decide_true, decide_false, Bool.not_true, Bool.not_false, Bool.not_eq_true', Bool.not_eq_false', Int.reduceLT, Int.reduceLE, Int.reduceEq]; done) | (decide) | (simp; done) | fail)
local macro_rules | `(tactic| wtm_at "one") => `(tactic| first | (with_reducible refine gMust_in ?_) | ((with_reducible apply i_isiK); (focus assumption); (focus decide)))
local macro_rules | `(tactic| wtm_at "kdt") => `(tactic| (repeat' first | with_reducible assumption | with_reducible exact kdA_nil | with_reducible refine kdA_cons ?_ ?_ | with_reducible refine kdA_app ?_ ?_ | with_reducible exact Kd.non | with_reducible exact Kd.int _ | with_reducible exact Kd.bl _ | with_reducible exact kd_tup0 | ((with_reducible refine kd_tup ?_ ?_); (focus rfl)) | (refine Kd.str _ ?_ ?_ <;> decide +kernel)))
theorem cutL_one' {α : Type} {x : α} {xs : List α} : cutL (x :: xs) (some 1) none = xs := by
  unfold cutL
  rw [show HT.sIx (x :: xs).length 0 (some 1) = 1 by show (if (1 : Int) < 0 then (1 + ((x :: xs).length : Int)).toNat else min (1 : Int).toNat (x :: xs).length) = 1; simp, show HT.sIx (x :: xs).length (x :: xs).length none = (x :: xs).length from rfl]
  simp
/-- one statement, then the rest: what comes behind stays hidden -/
theorem i_seqO {t u : TSm} {E : EndsM} {ρ : StM} {m : Mem} {R : StM → Mem → Prop} (hk : ∀ ρ' m', R ρ' m' → u E ρ' m')
    (h : ∀ N : StM → Mem → Prop, (∀ ρ' m', R ρ' m' → N ρ' m') → t { E with nx := N } ρ m) : wSeq t u E ρ m := h _ hk
theorem asks_any {x : Str} : ([D.str "not", .str "all", .str "any"].any fun z => eqF z (.str x)) = (decide (x = "not") || (decide (x = "all") || decide (x = "any"))) := by
  have := eqF_any (x := x) (l := ["not", "all", "any"])
  exact this.trans (by simp)
theorem ifs_any {x : Str} : ([D.str "if", .str "when", .str "until"].any fun z => eqF z (.str x)) = (decide (x = "if") || (decide (x = "when") || decide (x = "until"))) := by
  have := eqF_any (x := x) (l := ["if", "when", "until"])
  exact this.trans (by simp)
abbrev s_need_asked : Stmt := topS 19
theorem sc_need_asked : FnScope ["asked", "deep", "inner"] ["asked", "deep"] (defScope s_need_asked) := ⟨rfl, rfl, rfl, by decide +kernel, rfl, by decide +kernel, by decide +kernel⟩
theorem gok_need_asked {k n : Nat} (V : Gv K mg) (Z : Bl mg) {c : Addr} {f_must : Addr} {fd_must : FuncData} (D_must : Df K mg "must" f_must fd_must ["good"]) (G_must : FnM P w K mg base (L2.CX P w) (k) f_must fd_must ["good"] (gMust c)) {f_need_tuple : Addr} {fd_need_tuple : FuncData} (D_need_tuple : Df K mg "need_tuple" f_need_tuple fd_need_tuple ["told", "deep"]) (G_need_tuple : FnM P w K mg base (L2.CX P w) (k) f_need_tuple fd_need_tuple ["told", "deep"] (gTup c)) {f_need_told : Addr} {fd_need_told : FuncData} (D_need_told : Df K mg "need_told" f_need_told fd_need_told ["told", "deep"]) (G_need_told : FnM P w K mg base (L2.CX P w) (k) f_need_told fd_need_told ["told", "deep"] (gFam okTold c n)) {f_need_asked : Addr} {fd_need_asked : FuncData} (D_need_asked : Df K mg "need_asked" f_need_asked fd_need_asked ["asked", "deep"]) (G_need_asked : FnM P w K mg base (L2.CX P w) (k) f_need_asked fd_need_asked ["asked", "deep"] (gFam okAsked c n)) (F : Fun K "need_asked" "need_asked" s_need_asked f_need_asked fd_need_asked) : FnM P w K mg base (L2.CX P w) (k + 1) f_need_asked fd_need_asked ["asked", "deep"] (gFam okAsked c (n + 1)) := by
  refine fn_mX F sc_need_asked (fun ds m Q E h => ?_) (fun cdv A outer s H ds m Q E E' hr h hw => ?_)
  · obtain ⟨t, deep, rfl, _⟩ := h; rfl
  have nd := sc_need_asked.nd
  obtain ⟨d, deep, rfl, hk, hd, q⟩ := h
  have hE : okAsked n d = false → E c m := fun e => by rw [e] at q; exact q
  have hQ : okAsked n d = true → RtM Q .non m := fun e => by rw [e] at q; exact RtM.mk q
  clear q
  refine ⟨_, (mss_cons (ms_expr (mx_call (Em := E) G_need_tuple hr D_need_tuple.m D_need_tuple.k D_need_tuple.b (passM (takes_of rfl rfl rfl rfl) hw) (ma_cons (mv 0) (ma_cons (mv 1) ma_nil))))
    (mss_one (ms_if (mt_cmp (mo_eqq hr) (mx_ix (mi_sub hr) (mv 0) mx_int) mx_str (nomark _)) (mss_cons (ms_expr (mx_call (Em := E) G_must hr D_must.m D_must.k D_must.b (passM (takes_of rfl rfl rfl rfl) hw) (ma_cons (mx_cmp (mo_eqq hr) (mx_callB mc_len1 Z.b_len (ma_cons (mv 0) ma_nil)) mx_int (nomark _)) ma_nil)))
    (mss_cons (ms_expr (mx_call (Em := E) G_need_told hr D_need_told.m D_need_told.k D_need_told.b (passM (takes_of rfl rfl rfl rfl) hw) (ma_cons (mx_ix (mi_sub hr) (mv 0) mx_int) (ma_cons (mx_op mo_plus (mv 1) mx_int) ma_nil))))
    (mss_one (ms_expr (mx_call (Em := E) G_need_told hr D_need_told.m D_need_told.k D_need_told.b (passM (takes_of rfl rfl rfl rfl) hw) (ma_cons (mx_ix (mi_sub hr) (mv 0) mx_int) (ma_cons (mx_op mo_plus (mv 1) mx_int) ma_nil))))))) (mss_cons (ms_expr (mx_call (Em := E) G_must hr D_must.m D_must.k D_must.b (passM (takes_of rfl rfl rfl rfl) hw) (ma_cons (mx_and (mx_cmp (mo_in hr) (mx_ix (mi_sub hr) (mv 0) mx_int) (mx_tup (ma_cons mx_str (ma_cons mx_str (ma_cons mx_str ma_nil)))) rfl) (mx_one (mx_cmp (mo_eqq hr) (mx_callB mc_len1 Z.b_len (ma_cons (mv 0) ma_nil)) (mx_if (mt_cmp (mo_eqq hr) (mx_ix (mi_sub hr) (mv 0) mx_int) mx_str (nomark _)) mx_int mx_int) (nomark _)))) ma_nil)))
    (mss_one (ms_for (passes_of rfl) rfl (mi_tup (mx_slice (mv 0) (mo_some mx_int) mo_none)) (mg_name (i := 2) nd rfl (.inl rfl)) (mss_one (ms_expr (mx_call (Em := E) G_need_asked hr D_need_asked.m D_need_asked.k D_need_asked.b (passM (takes_of rfl rfl rfl rfl) hw) (ma_cons (mv 2) (ma_cons (mx_op mo_plus (mv 1) mx_int) ma_nil))))))))))), ?_⟩
  wtm_at "go"
  refine ⟨d, deep, rfl, hk, ?_⟩
  refine i_ite (fun h1 => ?_) (fun h1 => ?_)
  · obtain ⟨⟨x, r, rfl⟩, h12⟩ := okTup_iff.mp h1
    have hr' : ∀ y ∈ r, Kd m y := fun y hy => hk.tups y (.tail _ hy)
    obtain ⟨n, rfl⟩ : ∃ n', n = n' + 1 := ⟨n - 1, by omega⟩
    wtm_at "go"
    refine i_ite (fun h2 => ?_) (fun h2 => ?_)
    · have h2 := of_decide_eq_true h2; subst h2
      rcases r with _ | ⟨a, _ | ⟨b, _ | ⟨u, l⟩⟩⟩
      · wtm_at "go"; exact hE rfl
      · wtm_at "go"; exact hE rfl
      · wtm_at "go"
        refine ⟨a, _, rfl, hr' a (by simp), by omega, ?_⟩
        refine i_ite (fun h => ?_) (fun h => hE (by simp [okAsked, h]))
        wtm_at "go"
        refine ⟨b, _, rfl, hr' b (by simp), by omega, ?_⟩
        refine i_ite (fun h' => ?_) (fun h' => hE (by simp [okAsked, h']))
        exact hQ (by simp [okAsked, h, h'])
      · wtm_at "go"; exact hE rfl
    · have h2 := of_decide_eq_false h2
      wtm_at "go"
      refine i_in (in_tup rfl rfl) ?_
      rw [asks_any]
      wtm_at "go"
      refine i_ite (fun h4 => ?_) (fun h4 => ?_)
      · by_cases h3 : x = "not"
        · subst h3
          wtm_at "go"
          rcases r with _ | ⟨a, _ | ⟨b, l⟩⟩
          · wtm_at "go"; exact hE (by simp [okAsked, h2])
          · wtm_at "go"
            have hl : okAsked (n + 1) (.tup (.str "not" :: [a])) = ([a]).all (okAsked n) := by simp [okAsked, h2]
            rw [cutL_one']
            refine forC_ind (fun r' ρ M => ∃ (l1 : List D) (x2 : Option D), [a] = l1 ++ r' ∧ (∀ y ∈ l1, okAsked n y = true) ∧ ρ = [some (.tup (.str "not" :: [a])), some (.int deep), x2] ∧ M = m) ⟨[], none, rfl, (fun _ h => (nomatch h)), rfl, rfl⟩ ?_ ?_
            · rintro ρ M ⟨l1, x2, e, hx, rfl, rfl⟩
              refine ⟨trivial, hQ (hl.trans ?_)⟩
              rw [e, List.append_nil, List.all_eq_true]; exact hx
            · rintro d r' ρ M K2 hK ⟨l1, x2, e, hx, rfl, rfl⟩
              refine ⟨trivial, ?_⟩
              wtm_at "go"
              refine ⟨d, _, rfl, hr' d (by rw [e]; simp), by omega, ?_⟩
              refine i_ite (fun h => ?_) (fun h => hE (hl.trans ?_))
              · refine hK _ _ ⟨l1 ++ [d], _, by rw [e]; simp, ?_, rfl, rfl⟩
                intro y hy
                rcases List.mem_append.mp hy with hy | hy
                · exact hx y hy
                · rw [List.mem_singleton.mp hy]; exact h
              · rw [e, Bool.eq_false_iff]
                intro z
                rw [List.all_eq_true.mp z d (by simp)] at h; cases h
          · wtm_at "go"; exact hE (by simp [okAsked, h2])
        · have h5 : (decide (x = "all") || decide (x = "any")) = true := by rw [decide_eq_false h3] at h4; exact h4
          wtm_at "go"
          rcases r with _ | ⟨a, _ | ⟨b, _ | ⟨u, l⟩⟩⟩
          · wtm_at "go"; exact hE (by simp [okAsked, h2, h3])
          · wtm_at "go"; exact hE (by simp [okAsked, h2, h3])
          · wtm_at "go"
            have hl : okAsked (n + 1) (.tup (.str x :: [a, b])) = ([a, b]).all (okAsked n) := by simp [okAsked, h2, h3, h5]
            rw [cutL_one']
            refine forC_ind (fun r' ρ M => ∃ (l1 : List D) (x2 : Option D), [a, b] = l1 ++ r' ∧ (∀ y ∈ l1, okAsked n y = true) ∧ ρ = [some (.tup (.str x :: [a, b])), some (.int deep), x2] ∧ M = m) ⟨[], none, rfl, (fun _ h => (nomatch h)), rfl, rfl⟩ ?_ ?_
            · rintro ρ M ⟨l1, x2, e, hx, rfl, rfl⟩
              refine ⟨trivial, hQ (hl.trans ?_)⟩
              rw [e, List.append_nil, List.all_eq_true]; exact hx
            · rintro d r' ρ M K2 hK ⟨l1, x2, e, hx, rfl, rfl⟩
              refine ⟨trivial, ?_⟩
              wtm_at "go"
              refine ⟨d, _, rfl, hr' d (by rw [e]; simp), by omega, ?_⟩
              refine i_ite (fun h => ?_) (fun h => hE (hl.trans ?_))
              · refine hK _ _ ⟨l1 ++ [d], _, by rw [e]; simp, ?_, rfl, rfl⟩
                intro y hy
                rcases List.mem_append.mp hy with hy | hy
                · exact hx y hy
                · rw [List.mem_singleton.mp hy]; exact h
              · rw [e, Bool.eq_false_iff]
                intro z
                rw [List.all_eq_true.mp z d (by simp)] at h; cases h
          · wtm_at "go"; exact hE (by simp [okAsked, h2, h3])
      · wtm_at "go"
        exact hE (by
          rw [Bool.or_eq_false_iff, Bool.or_eq_false_iff] at h4
          obtain ⟨a1, a2, a3⟩ := h4
          simp only [okAsked, if_neg h2, if_neg (of_decide_eq_false a1), a2, a3]
          split <;> rfl)
  · refine hE (Bool.eq_false_iff.mpr fun h => ?_)
    obtain ⟨h2, h3⟩ := okAsked_sh h
    rw [okTup_iff.mpr ⟨h2, by omega⟩] at h1; cases h1
theorem gfin_need_asked {c : Nat} (V : Gv K mg) (Z : Bl mg) {C : Addr} {f_must : Addr} {fd_must : FuncData} (D_must : Df K mg "must" f_must fd_must ["good"]) (G_must : FnM P w K mg base (L2.CX P w) (c) f_must fd_must ["good"] (gMust C)) {f_need_tuple : Addr} {fd_need_tuple : FuncData} (D_need_tuple : Df K mg "need_tuple" f_need_tuple fd_need_tuple ["told", "deep"]) (G_need_tuple : FnM P w K mg base (L2.CX P w) (c) f_need_tuple fd_need_tuple ["told", "deep"] (gTup C)) {f_need_told : Addr} {fd_need_told : FuncData} (D_need_told : Df K mg "need_told" f_need_told fd_need_told ["told", "deep"]) (G_need_told : ∀ n, FnM P w K mg base (L2.CX P w) (c + n) f_need_told fd_need_told ["told", "deep"] (gFam okTold C n)) {f_need_asked : Addr} {fd_need_asked : FuncData} (D_need_asked : Df K mg "need_asked" f_need_asked fd_need_asked ["asked", "deep"]) (F : Fun K "need_asked" "need_asked" s_need_asked f_need_asked fd_need_asked) : ∀ n, FnM P w K mg base (L2.CX P w) (c + n) f_need_asked fd_need_asked ["asked", "deep"] (gFam okAsked C n)
  | 0 => fn_none fun ds m Q E h => h
  | n + 1 => gok_need_asked V Z D_must (G_must.mono (Nat.le_add_right c n)) D_need_tuple (G_need_tuple.mono (Nat.le_add_right c n)) D_need_told (G_need_told n) D_need_asked (gfin_need_asked V Z D_must G_must D_need_tuple G_need_tuple D_need_told G_need_told D_need_asked F n) F

local macro_rules | `(tactic| wtm_at "dec") => `(tactic| (simp; omega))
local macro_rules | `(tactic| wtm_at "dec") => `(tactic| (simp [isTy, isiB]; done))
local macro_rules | `(tactic| wtm_at "dec") => `(tactic| first | with_reducible rfl | (simp only [isN, ofString_inj, decide_eq_true_eq, decide_eq_false_iff_not, String.reduceEq, reduceCtorEq, not_false_eq_true, decide_true, decide_false, Bool.not_true, Bool.not_false, Bool.not_eq_true', Bool.not_eq_false', Int.reduceLT, Int.reduceLE, Int.reduceEq]; done) | (decide) | (simp; done) | fail)
local macro_rules | `(tactic| wtm_at "one") => `(tactic| first | (with_reducible refine gMust_in ?_) | ((with_reducible apply i_isiK); (focus assumption); (focus decide)))
local macro_rules | `(tactic| wtm_at "kdt") => `(tactic| (repeat' first | with_reducible assumption | with_reducible exact kdA_nil | with_reducible refine kdA_cons ?_ ?_ | with_reducible refine kdA_app ?_ ?_ | with_reducible exact Kd.non | with_reducible exact Kd.int _ | with_reducible exact Kd.bl _ | with_reducible exact kd_tup0 | ((with_reducible refine kd_tup ?_ ?_); (focus rfl)) | (refine Kd.str _ ?_ ?_ <;> decide +kernel)))
/-- what stands within, told generally -/
def innOf (x : Str) (r : List D) : Option (List D) :=
  if x = "none" then some [] else if x = "give" then some []
  else if x = "both" then (match r with | [a, b] => some [a, b] | _ => none)
  else if x = "if" then (match r with | [_, a, b] => some [a, b] | _ => none)
  else match r with | [_, c] => some [c] | [_, _, c] => some [c] | _ => none
def gWithin : SpM := fun ds m Q _ => ∃ (x : Str) (r inn : List D), ds = [.tup (.str x :: r)] ∧ innOf x r = some inn ∧ newO (.lst inn) m Q
abbrev s_within : Stmt := topS 23
theorem sc_within : FnScope ["contract", "word"] ["contract"] (defScope s_within) := ⟨rfl, rfl, rfl, by decide +kernel, rfl, by decide +kernel, by decide +kernel⟩
theorem gok_within {k : Nat} {f_within : Addr} {fd_within : FuncData} (F : Fun K "within" "within" s_within f_within fd_within) : FnM P w K mg base CX0 (k + 1) f_within fd_within ["contract"] (gWithin) := by
  refine fn_m F sc_within (fun ds m Q E h => ?_) (fun cdv A outer s H ds m Q E E' hr h => ?_)
  · obtain ⟨x, r, inn, rfl, _⟩ := h; rfl
  have nd := sc_within.nd
  obtain ⟨x, r, inn, rfl, hi, q⟩ := h
  refine ⟨_, (mss_cons (ms_set (i := 1) nd rfl (.inl rfl) (mx_ix (mi_sub hr) (mv 0) mx_int))
    (mss_cons (ms_if (mw_pt (mw_or (mt_cmp (mo_eqq hr) (mv 1) mx_str (nomark _)) (mw_or1 (mt_cmp (mo_eqq hr) (mv 1) mx_str (nomark _))))) (mss_one (ms_ret (mx_lst ma_nil))) mss_nil)
    (mss_cons (ms_if (mt_cmp (mo_eqq hr) (mv 1) mx_str (nomark _)) (mss_one (ms_ret (mx_lst (ma_cons (mx_ix (mi_sub hr) (mv 0) mx_int) (ma_cons (mx_ix (mi_sub hr) (mv 0) mx_int) ma_nil))))) mss_nil)
    (mss_cons (ms_if (mt_cmp (mo_eqq hr) (mv 1) mx_str (nomark _)) (mss_one (ms_ret (mx_lst (ma_cons (mx_ix (mi_sub hr) (mv 0) mx_int) (ma_cons (mx_ix (mi_sub hr) (mv 0) mx_int) ma_nil))))) mss_nil)
    (mss_one (ms_ret (mx_lst (ma_cons (mx_ix (mi_sub hr) (mv 0) (mx_neg mx_int)) ma_nil)))))))), ?_⟩
  by_cases h1 : x = "none"
  · subst h1; cases hi
    wtm_at "go"; intro p hp; exact RtM.mk (q p hp)
  by_cases h2 : x = "give"
  · subst h2; cases hi
    wtm_at "go"; intro p hp; exact RtM.mk (q p hp)
  by_cases h3 : x = "both"
  · subst h3
    simp only [innOf, if_neg h1, if_neg h2, if_true] at hi
    split at hi
    · cases hi
      wtm_at "go"; intro p hp; exact RtM.mk (q p hp)
    · cases hi
  by_cases h4 : x = "if"
  · subst h4
    simp only [innOf, if_neg h1, if_neg h2, if_neg h3, if_true] at hi
    split at hi
    · cases hi
      wtm_at "go"; intro p hp; exact RtM.mk (q p hp)
    · cases hi
  simp only [innOf, if_neg h1, if_neg h2, if_neg h3, if_neg h4] at hi
  split at hi
  · cases hi
    wtm_at "go"; intro p hp; exact RtM.mk (q p hp)
  · cases hi
    wtm_at "go"; intro p hp; exact RtM.mk (q p hp)
  · cases hi
def chkC (n : Nat) (x : Str) (r : List D) : Bool :=
  if x = "give" then (match r with | [a, b, g, t] => okWord g && okSides a b && okTold n t | _ => false)
  else if x = "turned" then (match r with | [a, b, _] => okSides a b | _ => false)
  else if x = "later" then (match r with | [h, _] => okNum 0 99 h | _ => false)
  else if x = "often" then (match r with | [k, h, _] => okNum 1 9 k && okNum 1 99 h | _ => false)
  else if x = "if" then (match r with | [q, _, _] => okAsked n q | _ => false)
  else if x = "when" then (match r with | [q, _] => okAsked n q | _ => false)
  else if x = "until" then (match r with | [q, _] => okAsked n q | _ => false)
  else if x = "both" then decide (r.length = 2)
  else decide (x = "none") && r.isEmpty
theorem okCon_chk {n : Nat} {x : Str} {r : List D} : okCon (n + 1) (.tup (.str x :: r)) = match innOf x r with | some inn => chkC n x r && inn.all (okCon n) | none => false := by
  have w : ∀ a b : String, a ≠ b → Str.ofString a ≠ Str.ofString b := fun a b h e => h (ofString_inj.mp e)
  by_cases h1 : x = "give"
  · subst h1
    rcases r with _ | ⟨a, _ | ⟨b, _ | ⟨g, _ | ⟨t, _ | ⟨u, l⟩⟩⟩⟩⟩ <;> simp [okCon, innOf, chkC, ofString_inj]
  by_cases h2 : x = "turned"
  · subst h2
    rcases r with _ | ⟨a, _ | ⟨b, _ | ⟨g, _ | ⟨t, l⟩⟩⟩⟩ <;> simp [okCon, innOf, chkC, ofString_inj]
  by_cases h3 : x = "later"
  · subst h3
    rcases r with _ | ⟨a, _ | ⟨b, _ | ⟨g, _ | ⟨t, l⟩⟩⟩⟩ <;> simp [okCon, innOf, chkC, ofString_inj]
  by_cases h4 : x = "often"
  · subst h4
    rcases r with _ | ⟨a, _ | ⟨b, _ | ⟨g, _ | ⟨t, l⟩⟩⟩⟩ <;> simp [okCon, innOf, chkC, ofString_inj]
  by_cases h5 : x = "if"
  · subst h5
    rcases r with _ | ⟨a, _ | ⟨b, _ | ⟨g, _ | ⟨t, l⟩⟩⟩⟩ <;> simp [okCon, innOf, chkC, ofString_inj, Bool.and_assoc]
  by_cases h6 : x = "when"
  · subst h6
    rcases r with _ | ⟨a, _ | ⟨b, _ | ⟨g, _ | ⟨t, l⟩⟩⟩⟩ <;> simp [okCon, innOf, chkC, ofString_inj]
  by_cases h7 : x = "until"
  · subst h7
    rcases r with _ | ⟨a, _ | ⟨b, _ | ⟨g, _ | ⟨t, l⟩⟩⟩⟩ <;> simp [okCon, innOf, chkC, ofString_inj]
  by_cases h8 : x = "both"
  · subst h8
    rcases r with _ | ⟨a, _ | ⟨b, _ | ⟨g, _ | ⟨t, l⟩⟩⟩⟩ <;> simp [okCon, innOf, chkC, ofString_inj]
  by_cases h9 : x = "none"
  · subst h9
    rcases r with _ | ⟨a, l⟩ <;> simp [okCon, innOf, chkC, ofString_inj]
  simp only [okCon, innOf, chkC, if_neg h1, if_neg h2, if_neg h3, if_neg h4, if_neg h5, if_neg h6, if_neg h7, if_neg h8, if_neg h9, decide_eq_false h9, Bool.false_and]
  split <;> rfl
theorem chkC_inn {n : Nat} {x : Str} {r : List D} (h : chkC n x r = true) : ∃ inn, innOf x r = some inn ∧ ∀ y ∈ inn, y ∈ r := by
  unfold chkC at h
  split at h
  · rename_i e; subst e; exact ⟨[], by simp [innOf, ofString_inj], by simp⟩
  split at h
  · rename_i e; subst e; split at h
    · exact ⟨_, by simp [innOf, ofString_inj]; rfl, by simp⟩
    · cases h
  split at h
  · rename_i e; subst e; split at h
    · exact ⟨_, by simp [innOf, ofString_inj]; rfl, by simp⟩
    · cases h
  split at h
  · rename_i e; subst e; split at h
    · exact ⟨_, by simp [innOf, ofString_inj]; rfl, by simp⟩
    · cases h
  split at h
  · rename_i e; subst e; split at h
    · exact ⟨_, by simp [innOf, ofString_inj]; rfl, by simp⟩
    · cases h
  split at h
  · rename_i e; subst e; split at h
    · exact ⟨_, by simp [innOf, ofString_inj]; rfl, by simp⟩
    · cases h
  split at h
  · rename_i e; subst e; split at h
    · exact ⟨_, by simp [innOf, ofString_inj]; rfl, by simp⟩
    · cases h
  split at h
  · rename_i e; subst e
    match r, h with
    | [a, b], _ => exact ⟨_, by simp [innOf, ofString_inj]; rfl, by simp⟩
  · rw [Bool.and_eq_true] at h
    rw [of_decide_eq_true h.1]
    exact ⟨[], by simp [innOf], by simp⟩

local macro_rules | `(tactic| wtm_at "dec") => `(tactic| (simp; omega))
local macro_rules | `(tactic| wtm_at "dec") => `(tactic| (simp [isTy, isiB]; done))
local macro_rules | `(tactic| wtm_at "dec") => `(tactic| first | with_reducible rfl | (simp only [isN, ofString_inj, decide_eq_true_eq, decide_eq_false_iff_not, String.reduceEq, reduceCtorEq, not_false_eq_true, decide_true, decide_false, Bool.not_true, Bool.not_false, Bool.not_eq_true', Bool.not_eq_false', Int.reduceLT, Int.reduceLE, Int.reduceEq]; done) | (decide) | (simp; done) | fail)
local macro_rules | `(tactic| wtm_at "one") => `(tactic| first | (with_reducible refine gMust_in ?_) | ((with_reducible apply i_isiK); (focus assumption); (focus decide)))
local macro_rules | `(tactic| wtm_at "kdt") => `(tactic| (repeat' first | with_reducible assumption | with_reducible exact kdA_nil | with_reducible refine kdA_cons ?_ ?_ | with_reducible refine kdA_app ?_ ?_ | with_reducible exact Kd.non | with_reducible exact Kd.int _ | with_reducible exact Kd.bl _ | with_reducible exact kd_tup0 | ((with_reducible refine kd_tup ?_ ?_); (focus rfl)) | (refine Kd.str _ ?_ ?_ <;> decide +kernel)))
theorem nx_mk' {n : StM → Mem → Prop} {rt : KM} {bk ct : StM → Mem → Prop} {ρ : StM} {m : Mem} (h : n ρ m) : EndsM.nx ⟨n, rt, bk, ct⟩ ρ m := h
abbrev s_look : Stmt := topS 21
theorem sc_look : FnScope ["contract", "deep", "word", "inner"] ["contract", "deep"] (defScope s_look) := ⟨rfl, rfl, rfl, by decide +kernel, rfl, by decide +kernel, by decide +kernel⟩
theorem gok_look {k n : Nat} (V : Gv K mg) (Z : Bl mg) {c : Addr} {f_must : Addr} {fd_must : FuncData} (D_must : Df K mg "must" f_must fd_must ["good"]) (G_must : FnM P w K mg base (L2.CX P w) (k) f_must fd_must ["good"] (gMust c)) {f_need_tuple : Addr} {fd_need_tuple : FuncData} (D_need_tuple : Df K mg "need_tuple" f_need_tuple fd_need_tuple ["told", "deep"]) (G_need_tuple : FnM P w K mg base (L2.CX P w) (k) f_need_tuple fd_need_tuple ["told", "deep"] (gTup c)) {f_need_number : Addr} {fd_need_number : FuncData} (D_need_number : Df K mg "need_number" f_need_number fd_need_number ["number", "least", "most"]) (G_need_number : FnM P w K mg base (L2.CX P w) (k) f_need_number fd_need_number ["number", "least", "most"] (gNum c)) {f_is_word : Addr} {fd_is_word : FuncData} (D_is_word : Df K mg "is_word" f_is_word fd_is_word ["word"]) (G_is_word : FnM P w K mg base CX0 (k) f_is_word fd_is_word ["word"] (gWord)) {f_need_sides : Addr} {fd_need_sides : FuncData} (D_need_sides : Df K mg "need_sides" f_need_sides fd_need_sides ["one", "other"]) (G_need_sides : FnM P w K mg base (L2.CX P w) (k) f_need_sides fd_need_sides ["one", "other"] (gSides c)) {f_need_told : Addr} {fd_need_told : FuncData} (D_need_told : Df K mg "need_told" f_need_told fd_need_told ["told", "deep"]) (G_need_told : FnM P w K mg base (L2.CX P w) (k) f_need_told fd_need_told ["told", "deep"] (gFam okTold c n)) {f_need_asked : Addr} {fd_need_asked : FuncData} (D_need_asked : Df K mg "need_asked" f_need_asked fd_need_asked ["asked", "deep"]) (G_need_asked : FnM P w K mg base (L2.CX P w) (k) f_need_asked fd_need_asked ["asked", "deep"] (gFam okAsked c n)) {f_within : Addr} {fd_within : FuncData} (D_within : Df K mg "within" f_within fd_within ["contract"]) (G_within : FnM P w K mg base CX0 (k) f_within fd_within ["contract"] (gWithin)) {f_look : Addr} {fd_look : FuncData} (D_look : Df K mg "look" f_look fd_look ["contract", "deep"]) (G_look : FnM P w K mg base (L2.CX P w) (k) f_look fd_look ["contract", "deep"] (gFam okCon c n)) (F : Fun K "look" "look" s_look f_look fd_look) : FnM P w K mg base (L2.CX P w) (k + 1) f_look fd_look ["contract", "deep"] (gFam okCon c (n + 1)) := by
  refine fn_mX F sc_look (fun ds m Q E h => ?_) (fun cdv A outer s H ds m Q E E' hr h hw => ?_)
  · obtain ⟨t, deep, rfl, _⟩ := h; rfl
  have nd := sc_look.nd
  obtain ⟨d, deep, rfl, hk, hd, q⟩ := h
  have hE : okCon n d = false → E c m := fun e => by rw [e] at q; exact q
  have hQ : okCon n d = true → RtM Q .non m := fun e => by rw [e] at q; exact RtM.mk q
  clear q
  refine ⟨_, (mss_cons (ms_expr (mx_call (Em := E) G_need_tuple hr D_need_tuple.m D_need_tuple.k D_need_tuple.b (passM (takes_of rfl rfl rfl rfl) hw) (ma_cons (mv 0) (ma_cons (mv 1) ma_nil))))
    (mss_cons (ms_set (i := 2) nd rfl (.inl rfl) (mx_ix (mi_sub hr) (mv 0) mx_int))
    (mss_cons (ms_if (mt_cmp (mo_eqq hr) (mv 2) mx_str (nomark _)) (mss_cons (ms_expr (mx_call (Em := E) G_must hr D_must.m D_must.k D_must.b (passM (takes_of rfl rfl rfl rfl) hw) (ma_cons (mx_and (mx_cmp (mo_eqq hr) (mx_callB mc_len1 Z.b_len (ma_cons (mv 0) ma_nil)) mx_int (nomark _)) (mx_one (mx_call (Em := noX) G_is_word hr D_is_word.m D_is_word.k D_is_word.b pass0M (ma_cons (mx_ix (mi_sub hr) (mv 0) mx_int) ma_nil)))) ma_nil)))
    (mss_cons (ms_expr (mx_call (Em := E) G_need_sides hr D_need_sides.m D_need_sides.k D_need_sides.b (passM (takes_of rfl rfl rfl rfl) hw) (ma_cons (mx_ix (mi_sub hr) (mv 0) mx_int) (ma_cons (mx_ix (mi_sub hr) (mv 0) mx_int) ma_nil))))
    (mss_one (ms_expr (mx_call (Em := E) G_need_told hr D_need_told.m D_need_told.k D_need_told.b (passM (takes_of rfl rfl rfl rfl) hw) (ma_cons (mx_ix (mi_sub hr) (mv 0) mx_int) (ma_cons (mx_op mo_plus (mv 1) mx_int) ma_nil))))))) (mss_one (ms_if (mt_cmp (mo_eqq hr) (mv 2) mx_str (nomark _)) (mss_cons (ms_expr (mx_call (Em := E) G_must hr D_must.m D_must.k D_must.b (passM (takes_of rfl rfl rfl rfl) hw) (ma_cons (mx_cmp (mo_eqq hr) (mx_callB mc_len1 Z.b_len (ma_cons (mv 0) ma_nil)) mx_int (nomark _)) ma_nil)))
    (mss_one (ms_expr (mx_call (Em := E) G_need_sides hr D_need_sides.m D_need_sides.k D_need_sides.b (passM (takes_of rfl rfl rfl rfl) hw) (ma_cons (mx_ix (mi_sub hr) (mv 0) mx_int) (ma_cons (mx_ix (mi_sub hr) (mv 0) mx_int) ma_nil)))))) (mss_one (ms_if (mt_cmp (mo_eqq hr) (mv 2) mx_str (nomark _)) (mss_cons (ms_expr (mx_call (Em := E) G_must hr D_must.m D_must.k D_must.b (passM (takes_of rfl rfl rfl rfl) hw) (ma_cons (mx_cmp (mo_eqq hr) (mx_callB mc_len1 Z.b_len (ma_cons (mv 0) ma_nil)) mx_int (nomark _)) ma_nil)))
    (mss_one (ms_expr (mx_call (Em := E) G_need_number hr D_need_number.m D_need_number.k D_need_number.b (passM (takes_of rfl rfl rfl rfl) hw) (ma_cons (mx_ix (mi_sub hr) (mv 0) mx_int) (ma_cons mx_int (ma_cons (mx_gt V.MOST_HOURS) ma_nil))))))) (mss_one (ms_if (mt_cmp (mo_eqq hr) (mv 2) mx_str (nomark _)) (mss_cons (ms_expr (mx_call (Em := E) G_must hr D_must.m D_must.k D_must.b (passM (takes_of rfl rfl rfl rfl) hw) (ma_cons (mx_cmp (mo_eqq hr) (mx_callB mc_len1 Z.b_len (ma_cons (mv 0) ma_nil)) mx_int (nomark _)) ma_nil)))
    (mss_cons (ms_expr (mx_call (Em := E) G_need_number hr D_need_number.m D_need_number.k D_need_number.b (passM (takes_of rfl rfl rfl rfl) hw) (ma_cons (mx_ix (mi_sub hr) (mv 0) mx_int) (ma_cons mx_int (ma_cons (mx_gt V.MOST_OFTEN) ma_nil)))))
    (mss_one (ms_expr (mx_call (Em := E) G_need_number hr D_need_number.m D_need_number.k D_need_number.b (passM (takes_of rfl rfl rfl rfl) hw) (ma_cons (mx_ix (mi_sub hr) (mv 0) mx_int) (ma_cons mx_int (ma_cons (mx_gt V.MOST_HOURS) ma_nil)))))))) (mss_one (ms_if (mt_cmp (mo_in hr) (mv 2) (mx_tup (ma_cons mx_str (ma_cons mx_str (ma_cons mx_str ma_nil)))) rfl) (mss_cons (ms_expr (mx_call (Em := E) G_must hr D_must.m D_must.k D_must.b (passM (takes_of rfl rfl rfl rfl) hw) (ma_cons (mx_cmp (mo_eqq hr) (mx_callB mc_len1 Z.b_len (ma_cons (mv 0) ma_nil)) (mx_if (mt_cmp (mo_eqq hr) (mv 2) mx_str (nomark _)) mx_int mx_int) (nomark _)) ma_nil)))
    (mss_one (ms_expr (mx_call (Em := E) G_need_asked hr D_need_asked.m D_need_asked.k D_need_asked.b (passM (takes_of rfl rfl rfl rfl) hw) (ma_cons (mx_ix (mi_sub hr) (mv 0) mx_int) (ma_cons (mx_op mo_plus (mv 1) mx_int) ma_nil)))))) (mss_one (ms_expr (mx_call (Em := E) G_must hr D_must.m D_must.k D_must.b (passM (takes_of rfl rfl rfl rfl) hw) (ma_cons (mx_or (mx_and (mx_cmp (mo_eqq hr) (mv 2) mx_str (nomark _)) (mx_one (mx_cmp (mo_eqq hr) (mx_callB mc_len1 Z.b_len (ma_cons (mv 0) ma_nil)) mx_int (nomark _)))) (mx_one (mx_cmp (mo_eqM hr) (mv 0) (mx_gt V.NONE) (nomark _)))) ma_nil)))))))))))))
    (mss_one (ms_for (passes_of rfl) rfl (mi_hid (mx_call (Em := noX) G_within hr D_within.m D_within.k D_within.b pass0M (ma_cons (mv 0) ma_nil))) (mg_name (i := 3) nd rfl (.inl rfl)) (mss_one (ms_expr (mx_call (Em := E) G_look hr D_look.m D_look.k D_look.b (passM (takes_of rfl rfl rfl rfl) hw) (ma_cons (mv 3) (ma_cons (mx_op mo_plus (mv 1) mx_int) ma_nil)))))))))), ?_⟩
  wtm_at "go"
  refine ⟨d, deep, rfl, hk, ?_⟩
  refine i_ite (fun h1 => ?_) (fun h1 => ?_)
  · obtain ⟨⟨x, r, rfl⟩, h12⟩ := okTup_iff.mp h1
    have hr' : ∀ y ∈ r, Kd m y := fun y hy => hk.tups y (.tail _ hy)
    obtain ⟨n, rfl⟩ : ∃ n', n = n' + 1 := ⟨n - 1, by omega⟩
    refine nx_mk' ?_
    with_reducible refine i_seqO (R := fun ρ' m' => ρ' = [some (.tup (.str x :: r)), some (.int deep), some (.str x), none] ∧ m = m') ?_ ?_
    rotate_left
    · intro N hN
      wtm_at "go"
      exact hN _ _ ⟨rfl, rfl⟩
    rintro ρ0 m0 ⟨rfl, rfl⟩
    with_reducible refine i_seqO (R := fun ρ' m' => ρ' = [some (.tup (.str x :: r)), some (.int deep), some (.str x), none] ∧ m = m' ∧ chkC n x r = true) ?_ ?_
    · rintro ρ' m' ⟨rfl, rfl, hc⟩
      obtain ⟨inn, hi, hin⟩ := chkC_inn hc
      have hl : okCon (n + 1) (.tup (.str x :: r)) = inn.all (okCon n) := by rw [okCon_chk, hi]; simp [hc]
      wtm_at "go"
      refine ⟨x, r, inn, rfl, hi, fun p hp => ?_⟩
      wtm_at "go"
      refine ⟨_, _, rd_L mput_same, Sub.refl.new hp, .inl hp, ?_⟩
      refine forC_ind (fun r' ρ M => ∃ (l1 : List D) (x3 : Option D), inn = l1 ++ r' ∧ (∀ y ∈ l1, okCon n y = true) ∧ ρ = [some (.tup (.str x :: r)), some (.int deep), some (.str x), x3] ∧ M = m) ⟨[], none, rfl, (fun _ h => (nomatch h)), rfl, rfl⟩ ?_ ?_
      · rintro ρ M ⟨l1, x2, e, hx, rfl, rfl⟩
        refine ⟨trivial, hQ (hl.trans ?_)⟩
        rw [e, List.append_nil, List.all_eq_true]; exact hx
      · rintro d r' ρ M K2 hK ⟨l1, x2, e, hx, rfl, rfl⟩
        refine ⟨trivial, ?_⟩
        wtm_at "go"
        refine ⟨d, _, rfl, hr' d (hin d (by rw [e]; simp)), by omega, ?_⟩
        refine i_ite (fun h => ?_) (fun h => hE (hl.trans ?_))
        · refine hK _ _ ⟨l1 ++ [d], _, by rw [e]; simp, ?_, rfl, rfl⟩
          intro y hy
          rcases List.mem_append.mp hy with hy | hy
          · exact hx y hy
          · rw [List.mem_singleton.mp hy]; exact h
        · rw [e, Bool.eq_false_iff]
          intro z
          rw [List.all_eq_true.mp z d (by simp)] at h; cases h
    intro N hN
    have hE' : chkC n x r = false → E c m := fun e => hE (by rw [okCon_chk]; split <;> simp [e])
    clear hQ hE
    by_cases h_give : x = "give"
    · subst h_give
      rcases r with _ | ⟨a, _ | ⟨b, _ | ⟨g, _ | ⟨t, _ | ⟨u9, l9⟩⟩⟩⟩⟩
      · wtm_at "go"; exact hE' (by simp [chkC, ofString_inj])
      · wtm_at "go"; exact hE' (by simp [chkC, ofString_inj])
      · wtm_at "go"; exact hE' (by simp [chkC, ofString_inj])
      · wtm_at "go"; exact hE' (by simp [chkC, ofString_inj])
      · wtm_at "go"
        refine ⟨g, rfl, hr' g (by simp), ?_⟩
        wtm_at "go"
        refine i_ite (fun h1 => ?_) (fun h1 => hE' (by simp [chkC, ofString_inj, h1]))
        wtm_at "go"
        refine ⟨a, b, rfl, hr' a (by simp), hr' b (by simp), ?_⟩
        refine i_ite (fun h2 => ?_) (fun h2 => hE' (by simp [chkC, ofString_inj, h2]))
        wtm_at "go"
        refine ⟨t, _, rfl, hr' t (by simp), by omega, ?_⟩
        refine i_ite (fun h3 => ?_) (fun h3 => hE' (by simp [chkC, ofString_inj, h3]))
        exact hN _ _ ⟨rfl, rfl, by simp [chkC, ofString_inj, h1, h2, h3]⟩
      · wtm_at "go"; exact hE' (by simp [chkC, ofString_inj])
    by_cases h_turned : x = "turned"
    · subst h_turned
      rcases r with _ | ⟨a, _ | ⟨b, _ | ⟨g, _ | ⟨u9, l9⟩⟩⟩⟩
      · wtm_at "go"; exact hE' (by simp [chkC, ofString_inj])
      · wtm_at "go"; exact hE' (by simp [chkC, ofString_inj])
      · wtm_at "go"; exact hE' (by simp [chkC, ofString_inj])
      · wtm_at "go"
        refine ⟨a, b, rfl, hr' a (by simp), hr' b (by simp), ?_⟩
        refine i_ite (fun h2 => ?_) (fun h2 => hE' (by simp [chkC, ofString_inj, h2]))
        exact hN _ _ ⟨rfl, rfl, by simp [chkC, ofString_inj, h2]⟩
      · wtm_at "go"; exact hE' (by simp [chkC, ofString_inj])
    by_cases h_later : x = "later"
    · subst h_later
      rcases r with _ | ⟨a, _ | ⟨b, _ | ⟨u9, l9⟩⟩⟩
      · wtm_at "go"; exact hE' (by simp [chkC, ofString_inj])
      · wtm_at "go"; exact hE' (by simp [chkC, ofString_inj])
      · wtm_at "go"
        refine ⟨a, _, _, rfl, hr' a (by simp), ?_⟩
        refine i_ite (fun h1 => ?_) (fun h1 => hE' (by simp [chkC, ofString_inj, h1]))
        exact hN _ _ ⟨rfl, rfl, by simp [chkC, ofString_inj, h1]⟩
      · wtm_at "go"; exact hE' (by simp [chkC, ofString_inj])
    by_cases h_often : x = "often"
    · subst h_often
      rcases r with _ | ⟨a, _ | ⟨b, _ | ⟨g, _ | ⟨u9, l9⟩⟩⟩⟩
      · wtm_at "go"; exact hE' (by simp [chkC, ofString_inj])
      · wtm_at "go"; exact hE' (by simp [chkC, ofString_inj])
      · wtm_at "go"; exact hE' (by simp [chkC, ofString_inj])
      · wtm_at "go"
        refine ⟨a, _, _, rfl, hr' a (by simp), ?_⟩
        refine i_ite (fun h1 => ?_) (fun h1 => hE' (by simp [chkC, ofString_inj, h1]))
        wtm_at "go"
        refine ⟨b, _, _, rfl, hr' b (by simp), ?_⟩
        refine i_ite (fun h2 => ?_) (fun h2 => hE' (by simp [chkC, ofString_inj, h2]))
        exact hN _ _ ⟨rfl, rfl, by simp [chkC, ofString_inj, h1, h2]⟩
      · wtm_at "go"; exact hE' (by simp [chkC, ofString_inj])
    by_cases h_if : x = "if"
    · subst h_if
      wtm_at "go"
      refine i_in (in_tup rfl rfl) ?_
      rw [ifs_any]
      wtm_at "go"
      rcases r with _ | ⟨a, _ | ⟨b, _ | ⟨g, _ | ⟨u9, l9⟩⟩⟩⟩
      · wtm_at "go"; exact hE' (by simp [chkC, ofString_inj])
      · wtm_at "go"; exact hE' (by simp [chkC, ofString_inj])
      · wtm_at "go"; exact hE' (by simp [chkC, ofString_inj])
      · wtm_at "go"
        refine ⟨a, _, rfl, hr' a (by simp), by omega, ?_⟩
        refine i_ite (fun h1 => ?_) (fun h1 => hE' (by simp [chkC, ofString_inj, h1]))
        exact hN _ _ ⟨rfl, rfl, by simp [chkC, ofString_inj, h1]⟩
      · wtm_at "go"; exact hE' (by simp [chkC, ofString_inj])
    by_cases h_when : x = "when"
    · subst h_when
      wtm_at "go"
      refine i_in (in_tup rfl rfl) ?_
      rw [ifs_any]
      wtm_at "go"
      rcases r with _ | ⟨a, _ | ⟨b, _ | ⟨u9, l9⟩⟩⟩
      · wtm_at "go"; exact hE' (by simp [chkC, ofString_inj])
      · wtm_at "go"; exact hE' (by simp [chkC, ofString_inj])
      · wtm_at "go"
        refine ⟨a, _, rfl, hr' a (by simp), by omega, ?_⟩
        refine i_ite (fun h1 => ?_) (fun h1 => hE' (by simp [chkC, ofString_inj, h1]))
        exact hN _ _ ⟨rfl, rfl, by simp [chkC, ofString_inj, h1]⟩
      · wtm_at "go"; exact hE' (by simp [chkC, ofString_inj])
    by_cases h_until : x = "until"
    · subst h_until
      wtm_at "go"
      refine i_in (in_tup rfl rfl) ?_
      rw [ifs_any]
      wtm_at "go"
      rcases r with _ | ⟨a, _ | ⟨b, _ | ⟨u9, l9⟩⟩⟩
      · wtm_at "go"; exact hE' (by simp [chkC, ofString_inj])
      · wtm_at "go"; exact hE' (by simp [chkC, ofString_inj])
      · wtm_at "go"
        refine ⟨a, _, rfl, hr' a (by simp), by omega, ?_⟩
        refine i_ite (fun h1 => ?_) (fun h1 => hE' (by simp [chkC, ofString_inj, h1]))
        exact hN _ _ ⟨rfl, rfl, by simp [chkC, ofString_inj, h1]⟩
      · wtm_at "go"; exact hE' (by simp [chkC, ofString_inj])
    by_cases h_both : x = "both"
    · subst h_both
      wtm_at "go"
      refine i_in (in_tup rfl rfl) ?_
      rw [ifs_any]
      wtm_at "go"
      rcases r with _ | ⟨a, _ | ⟨b, _ | ⟨u, l⟩⟩⟩
      · wtm_at "go"
        refine i_eqM (eqM_none hk (by decide +kernel)) ?_
        wtm_at "go"
        exact hE' (by simp [chkC, ofString_inj])
      · wtm_at "go"
        refine i_eqM (eqM_none hk (by decide +kernel)) ?_
        wtm_at "go"
        exact hE' (by simp [chkC, ofString_inj])
      · wtm_at "go"
        exact hN _ _ ⟨rfl, rfl, by simp [chkC, ofString_inj]⟩
      · wtm_at "go"
        refine i_eqM (eqM_none hk (by decide +kernel)) ?_
        wtm_at "go"
        exact hE' (by simp [chkC, ofString_inj])
    have hc : chkC n x r = (decide (x = "none") && r.isEmpty) := by simp only [chkC, if_neg h_give, if_neg h_turned, if_neg h_later, if_neg h_often, if_neg h_if, if_neg h_when, if_neg h_until, if_neg h_both]
    wtm_at "go"
    refine i_in (in_tup rfl rfl) ?_
    rw [ifs_any, decide_eq_false h_if, decide_eq_false h_when, decide_eq_false h_until]
    wtm_at "go"
    refine i_eqM (eqM_none hk (by decide +kernel)) ?_
    wtm_at "go"
    refine i_ite (fun h => ?_) (fun h => hE' (hc.trans h))
    exact hN _ _ ⟨rfl, rfl, hc.trans h⟩
  · refine hE (Bool.eq_false_iff.mpr fun h => ?_)
    obtain ⟨h2, h3⟩ := okCon_sh h
    rw [okTup_iff.mpr ⟨h2, by omega⟩] at h1; cases h1
theorem gfin_look {c : Nat} (V : Gv K mg) (Z : Bl mg) {C : Addr} {f_must : Addr} {fd_must : FuncData} (D_must : Df K mg "must" f_must fd_must ["good"]) (G_must : FnM P w K mg base (L2.CX P w) (c) f_must fd_must ["good"] (gMust C)) {f_need_tuple : Addr} {fd_need_tuple : FuncData} (D_need_tuple : Df K mg "need_tuple" f_need_tuple fd_need_tuple ["told", "deep"]) (G_need_tuple : FnM P w K mg base (L2.CX P w) (c) f_need_tuple fd_need_tuple ["told", "deep"] (gTup C)) {f_need_number : Addr} {fd_need_number : FuncData} (D_need_number : Df K mg "need_number" f_need_number fd_need_number ["number", "least", "most"]) (G_need_number : FnM P w K mg base (L2.CX P w) (c) f_need_number fd_need_number ["number", "least", "most"] (gNum C)) {f_is_word : Addr} {fd_is_word : FuncData} (D_is_word : Df K mg "is_word" f_is_word fd_is_word ["word"]) (G_is_word : FnM P w K mg base CX0 (c) f_is_word fd_is_word ["word"] (gWord)) {f_need_sides : Addr} {fd_need_sides : FuncData} (D_need_sides : Df K mg "need_sides" f_need_sides fd_need_sides ["one", "other"]) (G_need_sides : FnM P w K mg base (L2.CX P w) (c) f_need_sides fd_need_sides ["one", "other"] (gSides C)) {f_need_told : Addr} {fd_need_told : FuncData} (D_need_told : Df K mg "need_told" f_need_told fd_need_told ["told", "deep"]) (G_need_told : ∀ n, FnM P w K mg base (L2.CX P w) (c + n) f_need_told fd_need_told ["told", "deep"] (gFam okTold C n)) {f_need_asked : Addr} {fd_need_asked : FuncData} (D_need_asked : Df K mg "need_asked" f_need_asked fd_need_asked ["asked", "deep"]) (G_need_asked : ∀ n, FnM P w K mg base (L2.CX P w) (c + n) f_need_asked fd_need_asked ["asked", "deep"] (gFam okAsked C n)) {f_within : Addr} {fd_within : FuncData} (D_within : Df K mg "within" f_within fd_within ["contract"]) (G_within : FnM P w K mg base CX0 (c) f_within fd_within ["contract"] (gWithin)) {f_look : Addr} {fd_look : FuncData} (D_look : Df K mg "look" f_look fd_look ["contract", "deep"]) (F : Fun K "look" "look" s_look f_look fd_look) : ∀ n, FnM P w K mg base (L2.CX P w) (c + n) f_look fd_look ["contract", "deep"] (gFam okCon C n)
  | 0 => fn_none fun ds m Q E h => h
  | n + 1 => gok_look V Z D_must (G_must.mono (Nat.le_add_right c n)) D_need_tuple (G_need_tuple.mono (Nat.le_add_right c n)) D_need_number (G_need_number.mono (Nat.le_add_right c n)) D_is_word (G_is_word.mono (Nat.le_add_right c n)) D_need_sides (G_need_sides.mono (Nat.le_add_right c n)) D_need_told (G_need_told n) D_need_asked (G_need_asked n) D_within (G_within.mono (Nat.le_add_right c n)) D_look (gfin_look V Z D_must G_must D_need_tuple G_need_tuple D_need_number G_need_number D_is_word G_is_word D_need_sides G_need_sides D_need_told G_need_told D_need_asked G_need_asked D_within G_within D_look F n) F
def gNeedCon (C : Addr) : SpM := fun ds m Q E => ∃ d : D, ds = [d] ∧ Kd m d ∧ if okCon 12 d = true then Q .non m else E C m
abbrev s_need_contract : Stmt := topS 22
theorem sc_need_contract : FnScope ["contract"] ["contract"] (defScope s_need_contract) := ⟨rfl, rfl, rfl, by decide +kernel, rfl, by decide +kernel, by decide +kernel⟩
theorem gok_need_contract {k : Nat} {c : Addr} {f_look : Addr} {fd_look : FuncData} (D_look : Df K mg "look" f_look fd_look ["contract", "deep"]) (G_look : FnM P w K mg base (L2.CX P w) (k) f_look fd_look ["contract", "deep"] (gFam okCon c 13)) {f_need_contract : Addr} {fd_need_contract : FuncData} (F : Fun K "need_contract" "need_contract" s_need_contract f_need_contract fd_need_contract) : FnM P w K mg base (L2.CX P w) (k + 1) f_need_contract fd_need_contract ["contract"] (gNeedCon c) := by
  refine fn_mX F sc_need_contract (fun ds m Q E h => ?_) (fun cdv A outer s H ds m Q E E' hr h hw => ?_)
  · obtain ⟨c, rfl, _⟩ := h; rfl
  have nd := sc_need_contract.nd
  obtain ⟨d, rfl, hk, q⟩ := h
  refine ⟨_, (mss_one (ms_expr (mx_call (Em := E) G_look hr D_look.m D_look.k D_look.b (passM (takes_of rfl rfl rfl rfl) hw) (ma_cons (mv 0) (ma_cons mx_int ma_nil))))), ?_⟩
  wtm_at "go"
  refine ⟨d, 1, rfl, hk, rfl, ?_⟩
  refine i_ite (fun h => ?_) (fun h => ?_)
  · rw [h] at q; exact RtM.mk q
  · rw [h] at q; exact q

/-! ### words, sign by sign -/
theorem foldl_cps {x : Array Nat} : ∀ (k : Nat) (acc : Array Nat), ((List.replicate k x).foldl (· ++ ·) acc).toList = acc.toList ++ (List.replicate k x.toList).flatten
  | 0, acc => by simp
  | k + 1, acc => by rw [List.replicate_succ, List.foldl_cons, foldl_cps k, List.replicate_succ, List.flatten_cons, Array.toList_append, List.append_assoc]
theorem q_cps : (Str.ofString "q").cps = #[113] := by decide +kernel
theorem mul_q {n : Int} (h : 0 ≤ n) : (Txt.mul "q" n).cps.toList = List.replicate n.toNat 113 := by
  unfold Txt.mul
  split
  · have : n = 0 := by omega
    subst this; rfl
  · split
    · rename_i h2
      have h3 : n = 1 := by
        have : (Str.ofString "q").length = 1 := by decide +kernel
        rw [this] at h2
        simpa using h2
      subst h3
      rw [q_cps]; rfl
    · rw [foldl_cps, q_cps]
      have : ∀ k : Nat, (List.replicate k [113]).flatten = List.replicate k 113 := by
        intro k
        induction k with
        | zero => rfl
        | succ k ih => rw [List.replicate_succ, List.flatten_cons, ih, List.replicate_succ]; rfl
      simp [this]
theorem app_cps {a b : Str} : (a ++ b).cps.toList = a.cps.toList ++ b.cps.toList := by
  show (a.cps ++ b.cps).toList = _
  rw [Array.toList_append]
theorem strOk_iff {x : Str} : PyData.strOk x = true ↔ ∀ c ∈ x.cps.toList, c < 0x110000 := by
  unfold PyData.strOk
  rw [← Array.all_toList, List.all_eq_true]
  simp only [decide_eq_true_eq]
theorem word_cps {s : Dr} (B : DrB s) {k : Int} (h : ¬ (s.talk = 1 ∧ k < 12)) : (wordOf s k).cps.toList = List.replicate s.place.toNat 113 ++ (97 + (k + s.turn) % 26).toNat :: List.replicate (s.size - s.place - 1).toNat 113 := by
  unfold wordOf
  have h1 := B.p0
  have h2 := B.p1
  rw [if_neg h, app_cps, app_cps, mul_q h1, mul_q (by omega)]
  show _ ++ [(97 + (k + s.turn) % 26).toNat] ++ _ = _
  rw [List.append_assoc]; rfl
theorem talk_ok : ∀ x ∈ talkWords, PyData.strOk x = true := by decide +kernel
theorem wordOf_ok {s : Dr} (B : DrB s) {k : Int} : PyData.strOk (wordOf s k) = true := by
  by_cases h : s.talk = 1 ∧ k < 12
  · unfold wordOf
    rw [if_pos h]
    cases e : talkWords[k.toNat]? with
    | none => show PyData.strOk "" = true; decide +kernel
    | some x => exact talk_ok x (List.mem_of_getElem? e)
  · rw [strOk_iff, word_cps B h]
    intro c hc
    have h1 : (k + s.turn) % 26 < 26 := Int.emod_lt_of_pos _ (by decide)
    have h2 : 0 ≤ (k + s.turn) % 26 := Int.emod_nonneg _ (by decide)
    rcases List.mem_append.mp hc with hc | hc
    · have := List.eq_of_mem_replicate hc; omega
    · rcases List.mem_cons.mp hc with hc | hc
      · omega
      · have := List.eq_of_mem_replicate hc; omega
theorem talk_nd : talkWords.Nodup := by decide +kernel
theorem wordOf_inj {s : Dr} (B : DrB s) {i j : Int} (i0 : 0 ≤ i) (i1 : i < 12) (j0 : 0 ≤ j) (j1 : j < 12) (e : wordOf s i = wordOf s j) : i = j := by
  by_cases h : s.talk = 1
  · unfold wordOf at e
    rw [if_pos ⟨h, i1⟩, if_pos ⟨h, j1⟩] at e
    have l : talkWords.length = 12 := rfl
    have hi : i.toNat < talkWords.length := by omega
    have hj : j.toNat < talkWords.length := by omega
    rw [List.getElem?_eq_getElem hi, List.getElem?_eq_getElem hj] at e
    have := (List.getElem_inj talk_nd (i := i.toNat) (j := j.toNat) (h₀ := hi) (h₁ := hj)).mp e
    omega
  · have e2 := congrArg (fun x : Str => x.cps.toList) e
    rw [word_cps B (fun z => h z.1), word_cps B (fun z => h z.1)] at e2
    have e3 := List.append_cancel_left e2
    have e4 := (List.cons.inj e3).1
    have h1 : (i + s.turn) % 26 < 26 := Int.emod_lt_of_pos _ (by decide)
    have h2 : 0 ≤ (i + s.turn) % 26 := Int.emod_nonneg _ (by decide)
    have h3 : (j + s.turn) % 26 < 26 := Int.emod_lt_of_pos _ (by decide)
    have h4 : 0 ≤ (j + s.turn) % 26 := Int.emod_nonneg _ (by decide)
    have e5 : (i + s.turn) % 26 = (j + s.turn) % 26 := by omega
    omega
theorem word_len {s : Dr} (B : DrB s) {k : Int} : (wordOf s k).length ≤ 10 := by
  by_cases h : s.talk = 1 ∧ k < 12
  · unfold wordOf
    rw [if_pos h]
    cases e : talkWords[k.toNat]? with
    | none => show (Str.ofString "").length ≤ 10; decide +kernel
    | some x =>
      have h2 : ∀ x ∈ talkWords, x.length ≤ 10 := by decide +kernel
      exact h2 x (List.mem_of_getElem? e)
  · have : (wordOf s k).length = (wordOf s k).cps.toList.length := by rw [Array.length_toList]; rfl
    rw [this, word_cps B h]
    have h1 := B.p0
    have h2 := B.p1
    have h3 := B.z1
    simp
    omega

/-! ### words of one to eight small letters -/
def Wd (x : Str) : Prop := 1 ≤ x.length ∧ x.length ≤ 8 ∧ ∀ c ∈ x.cps.toList, c ∈ smallCps
/-! ### what is drawn is none to refuse -/
theorem small_mem {n : Nat} (h0 : 97 ≤ n) (h1 : n < 123) : n ∈ smallCps := by
  have h : ∀ k < 26, 97 + k ∈ smallCps := by decide +kernel
  have := h (n - 97) (by omega)
  rwa [show 97 + (n - 97) = n by omega] at this
theorem talk_wd : ∀ x ∈ talkWords, Wd x := by unfold Wd; decide +kernel
theorem word_wd {s : Dr} (B : DrB s) {k : Int} (k0 : 0 ≤ k) : Wd (wordOf s k) := by
  by_cases h : s.talk = 1 ∧ k < 12
  · have e : wordOf s k = (talkWords[k.toNat]?).getD "" := if_pos h
    have hl : k.toNat < talkWords.length := by show _ < 12; omega
    rw [e, List.getElem?_eq_getElem hl]
    exact talk_wd _ (List.getElem_mem hl)
  · have hc := word_cps B h
    have z0 := B.z0
    have z1 := B.z1
    have p0 := B.p0
    have p1 := B.p1
    have h1 : (k + s.turn) % 26 < 26 := Int.emod_lt_of_pos _ (by decide)
    have h2 : 0 ≤ (k + s.turn) % 26 := Int.emod_nonneg _ (by decide)
    have hl : (wordOf s k).length = (wordOf s k).cps.toList.length := (Array.length_toList).symm
    rw [hc, List.length_append, List.length_cons, List.length_replicate, List.length_replicate] at hl
    refine ⟨by omega, by omega, fun c hcm => ?_⟩
    rw [hc] at hcm
    rcases List.mem_append.mp hcm with hcm | hcm
    · have := List.eq_of_mem_replicate hcm
      exact small_mem (by omega) (by omega)
    · rcases List.mem_cons.mp hcm with hcm | hcm
      · exact small_mem (by omega) (by omega)
      · have := List.eq_of_mem_replicate hcm
        exact small_mem (by omega) (by omega)

/-! ### what is drawn is a contract -/
theorem namesOf_wd {s : Dr} (B : DrB s) {n : Nat} : ∀ x ∈ namesOf s n, Wd x := fun x hx => by
  obtain ⟨j, _, rfl⟩ := List.mem_map.mp hx
  exact word_wd B (by omega)
theorem okWord_wd {x : Str} (h : Wd x) : okWord (.str x) = true := decide_eq_true h
theorem sides_ok {s : Dr} (B : DrB s) {a b : Str} (h : sidesOf (wordOf s) a b) : Wd a ∧ Wd b ∧ okSides (.str a) (.str b) = true := by
  obtain ⟨i, j, i0, i1, j0, j1, ne, rfl, rfl⟩ := h
  have hn : wordOf s i ≠ wordOf s j := fun e => ne (wordOf_inj B i0 (by omega) j0 (by omega) e)
  exact ⟨word_wd B i0, word_wd B j0, by simp [okSides, okWord_wd (word_wd B i0), okWord_wd (word_wd B j0), hn]⟩
theorem okTold_of {nms : List Str} (hn : ∀ x ∈ nms, Wd x) : ∀ {t : Told} {n : Nat}, t.of nms → t.dp < n → okTold n t.d = true
  | .num i, n + 1, h, _ => by
    have h : i.natAbs < 10 ^ 12 := h
    simp only [Told.d, okTold, if_true, okNum, Bool.and_eq_true, decide_eq_true_eq]
    omega
  | .read x, n + 1, h, _ => by
    have : okWord (.str x) = true := okWord_wd (hn x h)
    simp only [Told.d, okTold, ofString_inj, String.reduceEq, if_false, if_true, this]
  | .bin j a b, n + 1, h, hd => by
    have hd : max a.dp b.dp + 1 < n + 1 := hd
    have h1 := okTold_of hn (t := a) (n := n) h.1 (by omega)
    have h2 := okTold_of hn (t := b) (n := n) h.2 (by omega)
    cases j <;> simp [Told.d, Jn.w, okTold, isJoin, ofString_inj, h1, h2]
theorem okAsked_of {nms : List Str} (hn : ∀ x ∈ nms, Wd x) : ∀ {q : Asked} {n : Nat}, q.of nms → q.dp + q.td + 1 < n → okAsked n q.d = true
  | .lt a b, n + 1, h, hd => by
    have hd : 0 + max a.dp b.dp + 1 < n + 1 := hd
    have h1 := okTold_of hn (t := a) (n := n) h.1 (by omega)
    have h2 := okTold_of hn (t := b) (n := n) h.2 (by omega)
    simp [Asked.d, okAsked, h1, h2]
  | .no a, n + 1, h, hd => by
    have hd : a.dp + 1 + a.td + 1 < n + 1 := hd
    have h1 := okAsked_of hn (q := a) (n := n) h (by omega)
    simp [Asked.d, okAsked, ofString_inj, h1]
  | .all a b, n + 1, h, hd => by
    have hd : max a.dp b.dp + 1 + max a.td b.td + 1 < n + 1 := hd
    have h1 := okAsked_of hn (q := a) (n := n) h.1 (by omega)
    have h2 := okAsked_of hn (q := b) (n := n) h.2 (by omega)
    simp [Asked.d, okAsked, ofString_inj, h1, h2]
  | .any a b, n + 1, h, hd => by
    have hd : max a.dp b.dp + 1 + max a.td b.td + 1 < n + 1 := hd
    have h1 := okAsked_of hn (q := a) (n := n) h.1 (by omega)
    have h2 := okAsked_of hn (q := b) (n := n) h.2 (by omega)
    simp [Asked.d, okAsked, ofString_inj, h1, h2]
theorem okCon_of {s : Dr} (B : DrB s) {nms : List Str} (hn : ∀ x ∈ nms, Wd x) : ∀ {c : Con} {n : Nat}, c.of (wordOf s) nms → c.dp + 5 < n → okCon n c.d = true
  | .no, n + 1, _, _ => by simp [Con.d, okCon, ofString_inj]
  | .give a b g t, n + 1, ⟨h1, ⟨l, l0, l1, eg⟩, ht, hd⟩, hl => by
    have h2 := (sides_ok B h1).2.2
    have h3 : okWord (.str g) = true := by rw [eg]; exact okWord_wd (word_wd B (by omega))
    have h4 := okTold_of hn (t := t) (n := n) ht (by omega)
    simp [Con.d, okCon, h2, h3, h4]
  | .both x y, n + 1, h, hl => by
    have hl : max x.dp y.dp + 1 + 5 < n + 1 := hl
    have h1 := okCon_of B hn (c := x) (n := n) h.1 (by omega)
    have h2 := okCon_of B hn (c := y) (n := n) h.2 (by omega)
    simp [Con.d, okCon, ofString_inj, h1, h2]
  | .turned a b x, n + 1, h, hl => by
    have hl : x.dp + 1 + 5 < n + 1 := hl
    have h1 := okCon_of B hn (c := x) (n := n) h.2 (by omega)
    have h2 := (sides_ok B h.1).2.2
    simp [Con.d, okCon, ofString_inj, h1, h2]
  | .later u x, n + 1, h, hl => by
    have hl : x.dp + 1 + 5 < n + 1 := hl
    have h1 := okCon_of B hn (c := x) (n := n) h.2 (by omega)
    have h2 := h.1
    simp [Con.d, okCon, ofString_inj, h1, okNum, h2.1, h2.2]
  | .often u k x, n + 1, h, hl => by
    have hl : x.dp + 1 + 5 < n + 1 := hl
    have h1 := okCon_of B hn (c := x) (n := n) h.2 (by omega)
    have h2 := h.1
    have h3 : k ≤ 99 := by omega
    simp [Con.d, okCon, ofString_inj, h1, okNum, h2.1, h2.2.1, h2.2.2.1, h3]
  | .ite q x y, n + 1, h, hl => by
    have hl : max x.dp y.dp + 1 + 5 < n + 1 := hl
    have h1 := okCon_of B hn (c := x) (n := n) h.2.1 (by omega)
    have h2 := okCon_of B hn (c := y) (n := n) h.2.2 (by omega)
    have h3 := okAsked_of hn (q := q) (n := n) h.1.1 (by have := h.1.2; omega)
    simp [Con.d, okCon, ofString_inj, h1, h2, h3]
  | .when q x, n + 1, h, hl => by
    have hl : x.dp + 1 + 5 < n + 1 := hl
    have h1 := okCon_of B hn (c := x) (n := n) h.2 (by omega)
    have h3 := okAsked_of hn (q := q) (n := n) h.1.1 (by have := h.1.2; omega)
    simp [Con.d, okCon, ofString_inj, h1, h3]
  | .till q x, n + 1, h, hl => by
    have hl : x.dp + 1 + 5 < n + 1 := hl
    have h1 := okCon_of B hn (c := x) (n := n) h.2 (by omega)
    have h3 := okAsked_of hn (q := q) (n := n) h.1.1 (by have := h.1.2; omega)
    simp [Con.d, okCon, ofString_inj, h1, h3]
theorem wd_ok {s : Dr} (B : DrB s) {k : Int} (k0 : 0 ≤ k) {m : Mem} : Kd m (.str (wordOf s k)) := .str _ (by have := (word_wd B k0).2.1; omega) (wordOf_ok B)
local macro_rules | `(tactic| wtm_at "kdt") => `(tactic| (repeat' first | with_reducible assumption | with_reducible exact kdA_nil | with_reducible refine kdA_cons ?_ ?_ | with_reducible refine kdA_app ?_ ?_ | with_reducible exact Kd.non | with_reducible exact Kd.int _ | with_reducible exact Kd.bl _ | with_reducible exact kd_tup0 | ((with_reducible refine kd_tup ?_ ?_); (focus rfl)) | (refine Kd.str _ ?_ ?_ <;> decide +kernel)))
theorem Told.kd {m : Mem} {s : Dr} (B : DrB s) {k : Nat} : ∀ {t : Told}, t.of (namesOf s k) → Kd m t.d
  | .num i, _ => by simp only [Told.d]; wtm_at "kdt"
  | .read x, h => by
    obtain ⟨j, _, rfl⟩ := List.mem_map.mp (show x ∈ namesOf s k from h)
    have hk : Kd m (.str (wordOf s (8 + (j : Int)))) := wd_ok B (by omega)
    simp only [Told.d]; wtm_at "kdt"
  | .bin j a b, h => by
    have h1 := Told.kd (m := m) B (t := a) h.1
    have h2 := Told.kd (m := m) B (t := b) h.2
    cases j <;> simp only [Told.d, Jn.w] <;> wtm_at "kdt"
theorem Asked.kd {m : Mem} {s : Dr} (B : DrB s) {k : Nat} : ∀ {q : Asked}, q.of (namesOf s k) → Kd m q.d
  | .lt a b, h => by
    have h1 := Told.kd (m := m) B (t := a) h.1
    have h2 := Told.kd (m := m) B (t := b) h.2
    simp only [Asked.d]; wtm_at "kdt"
  | .no a, h => by
    have h1 := Asked.kd (m := m) B (q := a) h
    simp only [Asked.d]; wtm_at "kdt"
  | .all a b, h => by
    have h1 := Asked.kd (m := m) B (q := a) h.1
    have h2 := Asked.kd (m := m) B (q := b) h.2
    simp only [Asked.d]; wtm_at "kdt"
  | .any a b, h => by
    have h1 := Asked.kd (m := m) B (q := a) h.1
    have h2 := Asked.kd (m := m) B (q := b) h.2
    simp only [Asked.d]; wtm_at "kdt"
theorem Con.kd {m : Mem} {s : Dr} (B : DrB s) {k : Nat} : ∀ {c : Con}, c.of (wordOf s) (namesOf s k) → Kd m c.d
  | .no, _ => by simp only [Con.d]; wtm_at "kdt"
  | .give a b g t, ⟨⟨i, j, i0, i1, j0, j1, ne, e1, e2⟩, ⟨l, l0, l1, eg⟩, ht, hd⟩ => by
    subst e1 e2 eg
    have h1 : Kd m (.str (wordOf s i)) := wd_ok B i0
    have h2 : Kd m (.str (wordOf s j)) := wd_ok B j0
    have h3 : Kd m (.str (wordOf s l)) := wd_ok B (by omega)
    have h4 := Told.kd (m := m) B ht
    simp only [Con.d]; wtm_at "kdt"
  | .both x y, h => by
    have h1 := Con.kd (m := m) B h.1
    have h2 := Con.kd (m := m) B h.2
    simp only [Con.d]; wtm_at "kdt"
  | .turned a b x, ⟨⟨i, j, i0, i1, j0, j1, ne, e1, e2⟩, hx⟩ => by
    subst e1 e2
    have h1 : Kd m (.str (wordOf s i)) := wd_ok B i0
    have h2 : Kd m (.str (wordOf s j)) := wd_ok B j0
    have h4 := Con.kd (m := m) B hx
    simp only [Con.d]; wtm_at "kdt"
  | .later u x, h => by
    have h1 := Con.kd (m := m) B h.2
    simp only [Con.d]; wtm_at "kdt"
  | .often u k x, h => by
    have h1 := Con.kd (m := m) B h.2
    simp only [Con.d]; wtm_at "kdt"
  | .ite q x y, h => by
    have h1 := Con.kd (m := m) B h.2.1
    have h2 := Con.kd (m := m) B h.2.2
    have h3 := Asked.kd (m := m) B h.1.1
    simp only [Con.d]; wtm_at "kdt"
  | .when q x, h => by
    have h1 := Con.kd (m := m) B h.2
    have h3 := Asked.kd (m := m) B h.1.1
    simp only [Con.d]; wtm_at "kdt"
  | .till q x, h => by
    have h1 := Con.kd (m := m) B h.2
    have h3 := Asked.kd (m := m) B h.1.1
    simp only [Con.d]; wtm_at "kdt"

local macro_rules | `(tactic| wtm_at "dec") => `(tactic| (simp; omega))
local macro_rules | `(tactic| wtm_at "dec") => `(tactic| (simp [isTy, isiB]; done))
local macro_rules | `(tactic| wtm_at "dec") => `(tactic| first | with_reducible rfl | (simp only [isN, ofString_inj, decide_eq_true_eq, decide_eq_false_iff_not, String.reduceEq, reduceCtorEq, not_false_eq_true, decide_true, decide_false, Bool.not_true, Bool.not_false, Bool.not_eq_true', Bool.not_eq_false', Int.reduceLT, Int.reduceLE, Int.reduceEq]; done) | (decide) | (simp; done) | fail)
local macro_rules | `(tactic| wtm_at "one") => `(tactic| first | (with_reducible refine gMust_in ?_) | ((with_reducible apply i_isiK); (focus assumption); (focus decide)))
local macro_rules | `(tactic| wtm_at "kdt") => `(tactic| (repeat' first | with_reducible assumption | with_reducible exact kdA_nil | with_reducible refine kdA_cons ?_ ?_ | with_reducible refine kdA_app ?_ ?_ | with_reducible exact Kd.non | with_reducible exact Kd.int _ | with_reducible exact Kd.bl _ | with_reducible exact kd_tup0 | ((with_reducible refine kd_tup ?_ ?_); (focus rfl)) | (refine Kd.str _ ?_ ?_ <;> decide +kernel)))
local macro_rules | `(tactic| wtm_at "one") => `(tactic| with_reducible first | refine i_try ?_ | refine i_wcallS ?_)
/-- what _law_refused tells -/
def gRefd : SpM := fun ds m Q _ => ∃ d : D, ds = [d] ∧ Kd m d ∧ Q (.str (if okCon 12 d = true then "good" else "bad")) m
abbrev s__law_refused : Stmt := topS 36
theorem sc__law_refused : FnScope ["_law_contract_here", "e"] ["_law_contract_here"] (defScope s__law_refused) := ⟨rfl, rfl, rfl, by decide +kernel, rfl, by decide +kernel, by decide +kernel⟩
theorem ok_law_refused {k : Nat} (Z : Bl mg) {c_BookError c_BadContract c_BadMarket c_TooMany c_BadText : Addr} (XE : Xcs K mg c_BookError c_BadContract c_BadMarket c_TooMany c_BadText) {f_need_contract : Addr} {fd_need_contract : FuncData} (D_need_contract : Df K mg "need_contract" f_need_contract fd_need_contract ["contract"]) (G_need_contract : FnM P w K mg base (L2.CX P w) (k) f_need_contract fd_need_contract ["contract"] (gNeedCon c_BadContract)) {f__law_refused : Addr} {fd__law_refused : FuncData} (F : Fun K "_law_refused" "_law_refused" s__law_refused f__law_refused fd__law_refused) : FnM P w K mg base CX0 (k + 1) f__law_refused fd__law_refused ["_law_contract_here"] (gRefd) := by
  refine fn_m F sc__law_refused (fun ds m Q E h => ?_) (fun cdv A outer s H ds m Q E E' hr h => ?_)
  · obtain ⟨d, rfl, _⟩ := h; rfl
  have nd := sc__law_refused.nd
  obtain ⟨d, rfl, hk, q⟩ := h
  refine ⟨_, (mss_cons (ms_try_as (i := 1) (C := c_BadContract) rfl rfl nd rfl rfl ⟨rfl, by decide, .inl XE.X_BookError.g⟩ XE.e_BadContract (fun B' Es W pn xe tk hw => (mss_one (ms_expr (mx_callS (Es := Es) G_need_contract hr D_need_contract.m D_need_contract.k D_need_contract.b tk hw (ma_cons (mv 0) ma_nil))))) (fun B' a oe pn hz hf => (mss_cons (ms_if (mw_pt (mw_or (mt_val (mx_callB (mc_isE XE.X_BadContract.c hz hf) Z.b_isinstance (ma_cons (mv 1) (ma_cons (mx_exc XE.X_BadMarket) ma_nil)))) (mw_or (mt_val (mx_callB (mc_isE XE.X_BadContract.c hz hf) Z.b_isinstance (ma_cons (mv 1) (ma_cons (mx_exc XE.X_BadText) ma_nil)))) (mw_or1 (mt_val (mx_callB (mc_isE XE.X_BadContract.c hz hf) Z.b_isinstance (ma_cons (mv 1) (ma_cons (mx_exc XE.X_TooMany) ma_nil)))))))) (mss_one (ms_ret mx_str)) mss_nil)
    (mss_one (ms_ret (mx_if (mw_pt (mw_and (mt_val (mx_callB (mc_isE XE.X_BadContract.c hz hf) Z.b_isinstance (ma_cons (mv 1) (ma_cons (mx_exc XE.X_BadContract) ma_nil)))) (mw_and1 (mt_val (mx_callB (mc_isE XE.X_BadContract.c hz hf) Z.b_isinstance (ma_cons (mv 1) (ma_cons (mx_ty (T := "ValueError") Z.b_ValueError) ma_nil))))))) mx_str mx_str))))))
    (mss_one (ms_ret mx_str))), ?_⟩
  wtm_at "go"
  refine ⟨d, rfl, hk, ?_⟩
  cases hg : okCon 12 d with
  | true =>
    rw [hg] at q
    wtm_at "go"
    try exact RtM.mk q
  | false =>
    rw [hg] at q
    wtm_at "go"
    refine ⟨rfl, fun x hx => ?_⟩
    wtm_at "go"
    refine ⟨rfl, false, XE.k_BadContract_BadMarket, ?_⟩
    wtm_at "go"
    refine ⟨rfl, false, XE.k_BadContract_BadText, ?_⟩
    wtm_at "go"
    refine ⟨rfl, false, XE.k_BadContract_TooMany, ?_⟩
    wtm_at "go"
    refine ⟨rfl, true, XE.k_BadContract_BadContract, ?_⟩
    wtm_at "go"
    refine ⟨rfl, true, XE.v_BadContract, ?_⟩
    wtm_at "go"
    try exact RtM.mk q
/-- none, at no depth -/
def Bad (d : D) : Prop := ∀ n < 13, okCon n d = false

local macro_rules | `(tactic| wtm_at "dec") => `(tactic| (simp; omega))
local macro_rules | `(tactic| wtm_at "dec") => `(tactic| (simp [isTy, isiB]; done))
local macro_rules | `(tactic| wtm_at "dec") => `(tactic| first | with_reducible rfl | (simp only [isN, ofString_inj, decide_eq_true_eq, decide_eq_false_iff_not, String.reduceEq, reduceCtorEq, not_false_eq_true, decide_true, decide_false, Bool.not_true, Bool.not_false, Bool.not_eq_true', Bool.not_eq_false', Int.reduceLT, Int.reduceLE, Int.reduceEq]; done) | (decide) | (simp; done) | fail)
local macro_rules | `(tactic| wtm_at "one") => `(tactic| first | (with_reducible refine gMust_in ?_) | ((with_reducible apply i_isiK); (focus assumption); (focus decide)))
local macro_rules | `(tactic| wtm_at "kdt") => `(tactic| (repeat' first | with_reducible assumption | with_reducible exact kdA_nil | with_reducible refine kdA_cons ?_ ?_ | with_reducible refine kdA_app ?_ ?_ | with_reducible exact Kd.non | with_reducible exact Kd.int _ | with_reducible exact Kd.bl _ | with_reducible exact kd_tup0 | ((with_reducible refine kd_tup ?_ ?_); (focus rfl)) | (refine Kd.str _ ?_ ?_ <;> decide +kernel)))
theorem pickL {L : List D} {r : Int} (h0 : 0 ≤ r) (h1 : r < L.length) : ∃ d, atI L r = some d ∧ d ∈ L := by
  obtain ⟨n, rfl⟩ : ∃ n : Nat, r = (n : Int) := ⟨r.toNat, by omega⟩
  exact ⟨L[n]'(by omega), atI_nat (List.getElem?_eq_getElem (by omega)), List.getElem_mem _⟩
theorem i_subLP {m : Mem} {Q : KM} {a : Addr} {ds : List D} {r : Int} (e0 : rdM m a = some (.lst ds)) (h0 : 0 ≤ r) (h1 : r < ds.length) (h : ∀ d ∈ ds, Q d m) : wSub (.ref a) (.int r) m Q := by
  obtain ⟨d, hd, hm⟩ := pickL h0 h1
  exact i_subL e0 hd (h d hm)
theorem ow_a : okWord (.str "a") = true := by decide +kernel
theorem ow_b : okWord (.str "b") = true := by decide +kernel
theorem ow_c : okWord (.str "c") = true := by decide +kernel
theorem ow_A : okWord (.str "A") = false := by decide +kernel
theorem ow_e : okWord (.str "") = false := by decide +kernel
theorem ow_9 : okWord (.str "ninelongs") = false := by decide +kernel
theorem ow_x : okWord (.str "x1") = false := by decide +kernel
theorem ow_5 : okWord (.int 5) = false := rfl
local macro_rules | `(tactic| wtm_at "bad") => `(tactic| (rename_i n _; rcases n with _ | _ | _ | _ | n <;> simp [okCon, okTold, okAsked, okSides, okNum, isJoin, ofString_inj, ow_a, ow_b, ow_c, ow_A, ow_e, ow_9, ow_x, ow_5]))
def GoodL (p1 : Addr) (L : List D) (n : Nat) : Prop := L.length = n ∧ ∀ d ∈ L, d = .ref p1 ∨ (∀ m, Kd m d) ∧ Bad d
theorem GoodL.nil {p1 : Addr} : GoodL p1 [] 0 := ⟨rfl, fun _ h => nomatch h⟩
theorem GoodL.cons {p1 : Addr} {d : D} {L : List D} {n : Nat} (h : ∀ m, Kd m d) (b : Bad d) (r : GoodL p1 L n) : GoodL p1 (d :: L) (n + 1) := ⟨by rw [List.length_cons, r.1], fun x hx => by
  rcases List.mem_cons.mp hx with rfl | hx
  · exact .inr ⟨h, b⟩
  · exact r.2 x hx⟩
theorem GoodL.con1 {p1 : Addr} {L : List D} {n : Nat} (r : GoodL p1 L n) : GoodL p1 (.ref p1 :: L) (n + 1) := ⟨by rw [List.length_cons, r.1], fun x hx => by
  rcases List.mem_cons.mp hx with rfl | hx
  · exact .inl rfl
  · exact r.2 x hx⟩
local macro_rules | `(tactic| wtm_at "good") => `(tactic| (repeat' first | exact GoodL.nil | refine GoodL.con1 ?_ | refine GoodL.cons (fun m => by wtm_at "kdt") (by intro n _; wtm_at "bad") ?_))
theorem GoodL.app {p1 : Addr} {L K : List D} {n k : Nat} (h : GoodL p1 L n) (g : GoodL p1 K k) : GoodL p1 (L ++ K) (n + k) :=
  ⟨by rw [List.length_append, h.1, g.1], fun d hd => by rcases List.mem_append.mp hd with hd | hd; exact h.2 d hd; exact g.2 d hd⟩
theorem plus_step {m : Mem} {a p1 : Addr} {i j : List D} {n k : Nat} {Q : KM} (h1 : m a = some (.lst i)) (hi : GoodL p1 i n) (hj : GoodL p1 j k) (z : n + k ≤ 1000) (h : ∀ p M L, m p = none → Sub m M → M p = some (.lst L) → GoodL p1 L (n + k) → Q (.ref p) M) : newO (.lst j) m (fun d m2 => wPlus (.ref a) d m2 Q) := by
  intro p hp
  refine i_plusL (mput_new hp h1) mput_same (sl (by rw [hi.1, hj.1]; exact z)) ?_
  intro p' hp'
  refine h p' _ _ ?_ ((Sub.refl.new hp).new hp') mput_same (hi.app hj)
  cases e : m p' with
  | none => rfl
  | some o => rw [mput_new hp e] at hp'; cases hp'
def spBad : SpM := fun ds m Q _ => ∃ i : Int, ds = [.int i] ∧ 0 ≤ i ∧ i < 40 ∧ ∀ d M, Sub m M → Kd M d → Bad d → Q d M
abbrev s__law_bad : Stmt := topS 37
theorem sc__law_bad : FnScope ["_law_way", "_law_one", "_law_none", "_law_good_here", "_law_some"] ["_law_way"] (defScope s__law_bad) := ⟨rfl, rfl, rfl, by decide +kernel, rfl, by decide +kernel, by decide +kernel⟩
theorem ok_law_bad {k : Nat} {f__law_bad : Addr} {fd__law_bad : FuncData} (F : Fun K "_law_bad" "_law_bad" s__law_bad f__law_bad fd__law_bad) : FnM P w K mg base CX0 (k + 1) f__law_bad fd__law_bad ["_law_way"] (spBad) := by
  refine fn_m F sc__law_bad (fun ds m Q E h => ?_) (fun cdv A outer s H ds m Q E E' hr h => ?_)
  · obtain ⟨d, rfl, _⟩ := h; rfl
  have nd := sc__law_bad.nd
  obtain ⟨i, rfl, i0, i1, q⟩ := h
  refine ⟨_, (mss_cons (ms_set (i := 1) nd rfl (.inl rfl) (mx_tup (ma_cons mx_str (ma_cons mx_int ma_nil))))
    (mss_cons (ms_set (i := 2) nd rfl (.inl rfl) (mx_tup (ma_cons mx_str ma_nil)))
    (mss_cons (ms_set (i := 3) nd rfl (.inl rfl) (mx_tup (ma_cons mx_str (ma_cons (mv 1) (ma_cons (mv 1) ma_nil)))))
    (mss_cons (ms_set (i := 4) nd rfl (.inl rfl) (mx_lst (ma_cons mx_non (ma_cons mx_str (ma_cons (mx_tup ma_nil) (ma_cons (mx_tup (ma_cons mx_str ma_nil)) (ma_cons (mx_lst (ma_cons mx_str ma_nil)) (ma_cons (mx_tup (ma_cons mx_str (ma_cons mx_int ma_nil))) (ma_cons (mx_tup (ma_cons mx_str (ma_cons mx_str (ma_cons mx_str (ma_cons mx_str ma_nil))))) ma_nil)))))))))
    (mss_cons (ms_set (i := 4) nd rfl (.inl rfl) (mx_op mo_plus (mv 4) (mx_lst (ma_cons (mx_tup (ma_cons mx_str (ma_cons mx_str (ma_cons mx_str (ma_cons mx_str (ma_cons (mv 1) ma_nil)))))) (ma_cons (mx_tup (ma_cons mx_str (ma_cons mx_str (ma_cons mx_str (ma_cons mx_str (ma_cons mx_int ma_nil)))))) ma_nil)))))
    (mss_cons (ms_set (i := 4) nd rfl (.inl rfl) (mx_op mo_plus (mv 4) (mx_lst (ma_cons (mx_tup (ma_cons mx_str (ma_cons mx_str (ma_cons mx_str (ma_cons mx_str (ma_cons (mv 1) ma_nil)))))) (ma_cons (mx_tup (ma_cons mx_str (ma_cons mx_str (ma_cons mx_str (ma_cons mx_str (ma_cons (mv 1) ma_nil)))))) ma_nil)))))
    (mss_cons (ms_set (i := 4) nd rfl (.inl rfl) (mx_op mo_plus (mv 4) (mx_lst (ma_cons (mx_tup (ma_cons mx_str (ma_cons mx_str (ma_cons mx_str (ma_cons mx_str (ma_cons (mv 1) ma_nil)))))) (ma_cons (mx_tup (ma_cons mx_str (ma_cons mx_str (ma_cons mx_str (ma_cons mx_str (ma_cons (mx_tup (ma_cons mx_str (ma_cons (mx_op mo_pow mx_int mx_int) ma_nil))) ma_nil)))))) ma_nil)))))
    (mss_cons (ms_set (i := 4) nd rfl (.inl rfl) (mx_op mo_plus (mv 4) (mx_lst (ma_cons (mx_tup (ma_cons mx_str (ma_cons mx_str (ma_cons mx_str (ma_cons mx_str (ma_cons (mx_tup (ma_cons mx_str (ma_cons mx_bl ma_nil))) ma_nil)))))) (ma_cons (mx_tup (ma_cons mx_str (ma_cons mx_str (ma_cons mx_str (ma_cons mx_str (ma_cons (mx_tup (ma_cons mx_str (ma_cons (mx_op mo_sub mx_int (mx_op mo_pow mx_int mx_int)) ma_nil))) ma_nil)))))) ma_nil)))))
    (mss_cons (ms_set (i := 4) nd rfl (.inl rfl) (mx_op mo_plus (mv 4) (mx_lst (ma_cons (mx_tup (ma_cons mx_str (ma_cons mx_str (ma_cons mx_str (ma_cons mx_str (ma_cons (mx_tup (ma_cons mx_str (ma_cons mx_str ma_nil))) ma_nil)))))) (ma_cons (mx_tup (ma_cons mx_str (ma_cons mx_str (ma_cons mx_str (ma_cons mx_str (ma_cons (mx_tup (ma_cons mx_str (ma_cons (mv 1) ma_nil))) ma_nil)))))) (ma_cons (mx_tup (ma_cons mx_str (ma_cons (mv 2) ma_nil))) ma_nil))))))
    (mss_cons (ms_set (i := 4) nd rfl (.inl rfl) (mx_op mo_plus (mv 4) (mx_lst (ma_cons (mx_tup (ma_cons mx_str (ma_cons mx_str (ma_cons mx_str (ma_cons mx_str (ma_cons (mx_tup (ma_cons mx_str (ma_cons (mv 1) (ma_cons (mv 1) ma_nil)))) ma_nil)))))) (ma_cons (mx_tup (ma_cons mx_str (ma_cons mx_str (ma_cons mx_str (ma_cons mx_str (ma_cons (mx_tup (ma_cons mx_str ma_nil)) ma_nil)))))) (ma_cons (mx_tup (ma_cons mx_str (ma_cons (mv 2) (ma_cons mx_non ma_nil)))) ma_nil))))))
    (mss_cons (ms_set (i := 4) nd rfl (.inl rfl) (mx_op mo_plus (mv 4) (mx_lst (ma_cons (mx_tup (ma_cons mx_str (ma_cons mx_str (ma_cons mx_str (ma_cons mx_int (ma_cons (mv 1) ma_nil)))))) (ma_cons (mx_tup (ma_cons mx_str (ma_cons mx_str (ma_cons mx_str (ma_cons (mv 2) ma_nil))))) (ma_cons (mx_tup (ma_cons mx_str (ma_cons mx_str (ma_cons mx_str ma_nil)))) (ma_cons (mx_tup (ma_cons mx_str (ma_cons (mx_neg mx_int) (ma_cons (mv 2) ma_nil)))) ma_nil)))))))
    (mss_cons (ms_set (i := 4) nd rfl (.inl rfl) (mx_op mo_plus (mv 4) (mx_lst (ma_cons (mx_tup (ma_cons mx_str (ma_cons mx_int (ma_cons (mv 2) ma_nil)))) (ma_cons (mx_tup (ma_cons mx_str (ma_cons mx_bl (ma_cons (mv 2) ma_nil)))) (ma_cons (mx_tup (ma_cons mx_str (ma_cons mx_int ma_nil))) (ma_cons (mx_tup (ma_cons mx_str (ma_cons mx_int (ma_cons mx_int (ma_cons (mv 2) ma_nil))))) ma_nil)))))))
    (mss_cons (ms_set (i := 4) nd rfl (.inl rfl) (mx_op mo_plus (mv 4) (mx_lst (ma_cons (mx_tup (ma_cons mx_str (ma_cons mx_int (ma_cons mx_int (ma_cons (mv 2) ma_nil))))) (ma_cons (mx_tup (ma_cons mx_str (ma_cons mx_int (ma_cons mx_int (ma_cons (mv 2) ma_nil))))) (ma_cons (mx_tup (ma_cons mx_str (ma_cons mx_int (ma_cons mx_int (ma_cons (mv 2) ma_nil))))) (ma_cons (mx_tup (ma_cons mx_str (ma_cons mx_str (ma_cons mx_int (ma_cons (mv 2) ma_nil))))) ma_nil)))))))
    (mss_cons (ms_expr (mx_append (mv 4) (mx_tup (ma_cons mx_str (ma_cons (mv 3) (ma_cons (mv 2) ma_nil))))))
    (mss_cons (ms_set (i := 4) nd rfl (.inl rfl) (mx_op mo_plus (mv 4) (mx_lst (ma_cons (mx_tup (ma_cons mx_str (ma_cons (mv 1) (ma_cons (mv 2) (ma_cons (mv 2) ma_nil))))) (ma_cons (mx_tup (ma_cons mx_str (ma_cons (mx_tup (ma_cons mx_str (ma_cons (mv 3) (ma_cons (mv 3) ma_nil)))) (ma_cons (mv 2) ma_nil)))) (ma_cons (mx_tup (ma_cons mx_str (ma_cons (mx_tup (ma_cons mx_str (ma_cons (mv 3) ma_nil))) (ma_cons (mv 2) ma_nil)))) ma_nil))))))
    (mss_cons (ms_set (i := 4) nd rfl (.inl rfl) (mx_op mo_plus (mv 4) (mx_lst (ma_cons (mx_tup (ma_cons mx_str (ma_cons (mx_tup (ma_cons mx_str (ma_cons (mv 1) (ma_cons (mv 1) ma_nil)))) (ma_cons (mv 2) ma_nil)))) (ma_cons (mx_tup (ma_cons mx_str (ma_cons (mv 3) ma_nil))) (ma_cons (mx_tup (ma_cons mx_str (ma_cons (mx_tup (ma_cons mx_str (ma_cons (mv 1) (ma_cons (mv 3) ma_nil)))) (ma_cons (mv 2) ma_nil)))) ma_nil))))))
    (mss_one (ms_ret (mx_ix (mi_sub hr) (mv 4) (mv 0)))))))))))))))))))), ?_⟩
  wtm_at "go"
  intro p1 hp1
  wtm_at "go"
  intro p2 hp2
  have s0 : Sub m (mput (mput m p1 (.lst [.str "none"])) p2 (.lst [.non, .str "none", .tup [], .tup [.str "nothing"], .ref p1, .tup [.str "none", .int 1], .tup [.str "give", .str "a", .str "b", .str "c"]])) := (Sub.refl.new hp1).new hp2
  have e0 : mput (mput m p1 (.lst [.str "none"])) p2 (.lst [.non, .str "none", .tup [], .tup [.str "nothing"], .ref p1, .tup [.str "none", .int 1], .tup [.str "give", .str "a", .str "b", .str "c"]]) p2 = _ := mput_same
  have g0 : mput (mput m p1 (.lst [.str "none"])) p2 (.lst [.non, .str "none", .tup [], .tup [.str "nothing"], .ref p1, .tup [.str "none", .int 1], .tup [.str "give", .str "a", .str "b", .str "c"]]) p1 = some (.lst [.str "none"]) := mput_new hp2 mput_same
  generalize mput (mput m p1 (.lst [.str "none"])) p2 (.lst [.non, .str "none", .tup [], .tup [.str "nothing"], .ref p1, .tup [.str "none", .int 1], .tup [.str "give", .str "a", .str "b", .str "c"]]) = M0 at s0 e0 g0 ⊢
  have l0 : GoodL p1 [.non, .str "none", .tup [], .tup [.str "nothing"], .ref p1, .tup [.str "none", .int 1], .tup [.str "give", .str "a", .str "b", .str "c"]] 7 := by wtm_at "good"
  generalize ([.non, .str "none", .tup [], .tup [.str "nothing"], .ref p1, .tup [.str "none", .int 1], .tup [.str "give", .str "a", .str "b", .str "c"]] : List D) = L0 at e0 l0
  clear hp2
  have n1 : m p1 = none := hp1
  clear hp1
  wtm_at "go"
  refine plus_step (k := 2) e0 l0 (by wtm_at "good") (by decide) fun q1 M1 L1 u1 t1 e1 l1 => ?_
  have s1 := s0.trans t1
  have g1 := t1 _ _ g0
  clear s0 e0 g0 t1 l0 u1
  wtm_at "go"
  refine plus_step (k := 2) e1 l1 (by wtm_at "good") (by decide) fun q2 M2 L2 u2 t2 e2 l2 => ?_
  have s2 := s1.trans t2
  have g2 := t2 _ _ g1
  clear s1 e1 g1 t2 l1 u2
  wtm_at "go"
  refine plus_step (k := 2) e2 l2 (by wtm_at "good") (by decide) fun q3 M3 L3 u3 t3 e3 l3 => ?_
  have s3 := s2.trans t3
  have g3 := t3 _ _ g2
  clear s2 e2 g2 t3 l2 u3
  wtm_at "go"
  refine plus_step (k := 2) e3 l3 (by wtm_at "good") (by decide) fun q4 M4 L4 u4 t4 e4 l4 => ?_
  have s4 := s3.trans t4
  have g4 := t4 _ _ g3
  clear s3 e3 g3 t4 l3 u4
  wtm_at "go"
  refine plus_step (k := 3) e4 l4 (by wtm_at "good") (by decide) fun q5 M5 L5 u5 t5 e5 l5 => ?_
  have s5 := s4.trans t5
  have g5 := t5 _ _ g4
  clear s4 e4 g4 t5 l4 u5
  wtm_at "go"
  refine plus_step (k := 3) e5 l5 (by wtm_at "good") (by decide) fun q6 M6 L6 u6 t6 e6 l6 => ?_
  have s6 := s5.trans t6
  have g6 := t6 _ _ g5
  clear s5 e5 g5 t6 l5 u6
  wtm_at "go"
  refine plus_step (k := 4) e6 l6 (by wtm_at "good") (by decide) fun q7 M7 L7 u7 t7 e7 l7 => ?_
  have s7 := s6.trans t7
  have g7 := t7 _ _ g6
  clear s6 e6 g6 t7 l6 u7
  wtm_at "go"
  refine plus_step (k := 4) e7 l7 (by wtm_at "good") (by decide) fun q8 M8 L8 u8 t8 e8 l8 => ?_
  have s8 := s7.trans t8
  have g8 := t8 _ _ g7
  clear s7 e7 g7 t8 l7 u8
  wtm_at "go"
  refine plus_step (k := 4) e8 l8 (by wtm_at "good") (by decide) fun q9 M9 L9 u9 t9 e9 l9 => ?_
  have nm : m q9 = none := by
    cases e : m q9 with
    | none => rfl
    | some o => rw [s8 _ _ e] at u9; cases u9
  have np : p1 ≠ q9 := by rintro rfl; rw [g8] at u9; cases u9
  have s9 := s8.trans t9
  have g9 := t9 _ _ g8
  clear s8 e8 g8 t9 l8 u9
  wtm_at "go"
  refine ⟨⟨_, rd_L e9⟩, ?_⟩
  wtm_at "go"
  refine ⟨L9, e9, small1000 (by rw [l9.1]; decide), ?_⟩
  have l10 := l9.app (show GoodL p1 [.tup [.str "if", .tup [.str "below", .tup [.str "num", .int 1], .tup [.str "num", .int 1]], .tup [.str "none"]]] 1 by wtm_at "good")
  have e10 : mput M9 q9 (.lst (L9 ++ [.tup [.str "if", .tup [.str "below", .tup [.str "num", .int 1], .tup [.str "num", .int 1]], .tup [.str "none"]]])) q9 = _ := mput_same
  have g10 : mput M9 q9 (.lst (L9 ++ [.tup [.str "if", .tup [.str "below", .tup [.str "num", .int 1], .tup [.str "num", .int 1]], .tup [.str "none"]]])) p1 = some (.lst [.str "none"]) := by rw [mput_ne np]; exact g9
  have s10 : Sub m (mput M9 q9 (.lst (L9 ++ [.tup [.str "if", .tup [.str "below", .tup [.str "num", .int 1], .tup [.str "num", .int 1]], .tup [.str "none"]]]))) := fun b o e => by
    rw [mput_ne]; exact s9 _ _ e
    rintro rfl; rw [nm] at e; cases e
  generalize mput M9 q9 (.lst (L9 ++ [.tup [.str "if", .tup [.str "below", .tup [.str "num", .int 1], .tup [.str "num", .int 1]], .tup [.str "none"]]])) = M10 at e10 g10 s10 ⊢
  generalize L9 ++ [.tup [.str "if", .tup [.str "below", .tup [.str "num", .int 1], .tup [.str "num", .int 1]], .tup [.str "none"]]] = L10 at e10 l10
  clear s9 g9 e9 l9 np nm
  wtm_at "go"
  refine plus_step (k := 3) e10 l10 (by wtm_at "good") (by decide) fun q11 M11 L11 u11 t11 e11 l11 => ?_
  have s11 := s10.trans t11
  have g11 := t11 _ _ g10
  clear s10 e10 g10 t11 l10 u11
  wtm_at "go"
  refine plus_step (k := 3) e11 l11 (by wtm_at "good") (by decide) fun q12 M12 L12 u12 t12 e12 l12 => ?_
  have s12 := s11.trans t12
  have g12 := t12 _ _ g11
  clear s11 e11 g11 t12 l11 u12
  wtm_at "go"
  refine i_subLP (rd_L e12) i0 (by rw [l12.1]; simpa using i1) fun d hd => ?_
  refine RtM.mk (q _ _ s12 ?_ ?_)
  · rcases l12.2 d hd with rfl | h
    · exact .lst (rd_L g12) fun x hx => by rw [List.mem_singleton.mp hx]; exact .str _ (by decide +kernel) (by decide +kernel)
    · exact h.1 _
  · rcases l12.2 d hd with rfl | h
    · intro n _; cases n <;> rfl
    · exact h.2

local macro_rules | `(tactic| wtm_at "dec") => `(tactic| (simp; omega))
local macro_rules | `(tactic| wtm_at "dec") => `(tactic| (simp [isTy, isiB]; done))
local macro_rules | `(tactic| wtm_at "dec") => `(tactic| first | with_reducible rfl | (simp only [isN, ofString_inj, decide_eq_true_eq, decide_eq_false_iff_not, String.reduceEq, reduceCtorEq, not_false_eq_true, decide_true, decide_false, Bool.not_true, Bool.not_false, Bool.not_eq_true', Bool.not_eq_false', Int.reduceLT, Int.reduceLE, Int.reduceEq]; done) | (decide) | (simp; done) | fail)
local macro_rules | `(tactic| wtm_at "one") => `(tactic| first | (with_reducible refine gMust_in ?_) | ((with_reducible apply i_isiK); (focus assumption); (focus decide)))
local macro_rules | `(tactic| wtm_at "kdt") => `(tactic| (repeat' first | with_reducible assumption | with_reducible exact kdA_nil | with_reducible refine kdA_cons ?_ ?_ | with_reducible refine kdA_app ?_ ?_ | with_reducible exact Kd.non | with_reducible exact Kd.int _ | with_reducible exact Kd.bl _ | with_reducible exact kd_tup0 | ((with_reducible refine kd_tup ?_ ?_); (focus rfl)) | (refine Kd.str _ ?_ ?_ <;> decide +kernel)))
theorem bad_con {d : D} (h : Bad d) {n : Nat} (x : D) (e : ∀ k, okCon (k + 1) x = true → okCon k d = true) (hn : n < 13) : okCon n x = false := by
  cases n with
  | zero => rfl
  | succ k =>
    refine Bool.eq_false_iff.mpr fun z => ?_
    have := e k z
    rw [h k (by omega)] at this; cases this
def spAround (K : PySem.W.Frag) : SpM := fun ds m Q _ => ∃ (a : Addr) (s : Dr) (d : D), ds = [.ref a, d] ∧ DrI K m a s ∧ Kd m d ∧ Bad d ∧ ∀ d' s', Kd (mput m a s'.o) d' → Bad d' → DrI K (mput m a s'.o) a s' → Q d' (mput m a s'.o)
theorem Kd.dr {K : PySem.W.Frag} {m : Mem} {a : Addr} {s : Dr} {o : O} (I : DrI K m a s) {d : D} (h : Kd m d) : Kd (mput m a o) d := by
  induction h with
  | non => exact .non
  | bl b => exact .bl b
  | int i => exact .int i
  | str x h1 h2 => exact .str x h1 h2
  | tup _ h0 ih => exact .tup ih h0
  | @lst b ds e _ ih => exact .lst (rdM_off (by rintro rfl; rw [I.rd] at e; cases e) e) ih
abbrev s__law_around : Stmt := topS 38
theorem sc__law_around : FnScope ["_law_s", "_law_contract_here", "_law_k", "_law_way"] ["_law_s", "_law_contract_here"] (defScope s__law_around) := ⟨rfl, rfl, rfl, by decide +kernel, rfl, by decide +kernel, by decide +kernel⟩
theorem ok_law_around {k : Nat} (Z : Bl mg) {f__law_taken : Addr} {fd__law_taken : FuncData} (D__law_taken : Df K mg "_law_taken" f__law_taken fd__law_taken ["_law_s", "_law_most"]) (G__law_taken : FnM P w K mg base CX0 (k) f__law_taken fd__law_taken ["_law_s", "_law_most"] (spTaken K)) {f__law_around : Addr} {fd__law_around : FuncData} (F : Fun K "_law_around" "_law_around" s__law_around f__law_around fd__law_around) : FnM P w K mg base CX0 (k + 1) f__law_around fd__law_around ["_law_s", "_law_contract_here"] (spAround K) := by
  refine fn_m F sc__law_around (fun ds m Q E h => ?_) (fun cdv A outer s H ds m Q E E' hr h => ?_)
  · obtain ⟨a, s, d, rfl, _⟩ := h; rfl
  have nd := sc__law_around.nd
  obtain ⟨a, s, d, rfl, I, kd, bd, q⟩ := h
  refine ⟨_, (mss_cons (ms_for PassesOwn.never rfl (mi_range1 Z.b_range (ma_cons (mx_call (Em := noX) G__law_taken hr D__law_taken.m D__law_taken.k D__law_taken.b pass0M (ma_cons (mv 0) (ma_cons mx_int ma_nil))) ma_nil)) (mg_name (i := 2) nd rfl (.inl rfl)) (mss_cons (ms_set (i := 3) nd rfl (.inl rfl) (mx_call (Em := noX) G__law_taken hr D__law_taken.m D__law_taken.k D__law_taken.b pass0M (ma_cons (mv 0) (ma_cons mx_int ma_nil))))
    (mss_one (ms_if (mt_cmp (mo_eqq hr) (mv 3) mx_int (nomark _)) (mss_one (ms_set (i := 1) nd rfl (.inl rfl) (mx_tup (ma_cons mx_str (ma_cons (mx_tup (ma_cons mx_str ma_nil)) (ma_cons (mv 1) ma_nil)))))) (mss_one (ms_if (mt_cmp (mo_eqq hr) (mv 3) mx_int (nomark _)) (mss_one (ms_set (i := 1) nd rfl (.inl rfl) (mx_tup (ma_cons mx_str (ma_cons mx_int (ma_cons (mv 1) ma_nil)))))) (mss_one (ms_if (mt_cmp (mo_eqq hr) (mv 3) mx_int (nomark _)) (mss_one (ms_set (i := 1) nd rfl (.inl rfl) (mx_tup (ma_cons mx_str (ma_cons (mx_tup (ma_cons mx_str (ma_cons (mx_tup (ma_cons mx_str (ma_cons mx_int ma_nil))) (ma_cons (mx_tup (ma_cons mx_str (ma_cons mx_int ma_nil))) ma_nil)))) (ma_cons (mv 1) (ma_cons (mx_tup (ma_cons mx_str ma_nil)) ma_nil))))))) (mss_one (ms_set (i := 1) nd rfl (.inl rfl) (mx_tup (ma_cons mx_str (ma_cons mx_str (ma_cons mx_str (ma_cons (mv 1) ma_nil)))))))))))))))
    (mss_one (ms_ret (mv 1)))), ?_⟩
  wtm_at "go"
  refine spTaken.mk I (by decide) (by decide) fun r s1 r0 r1 n1 I1 => ?_
  wtm_at "go"
  refine ⟨by omega, by omega, ?_⟩
  refine forC_ind (fun rest ρ M => ∃ (s' : Dr) (e1 e2 : Option D) (d : D), ρ = [some (.ref a), some d, e1, e2] ∧ M = mput m a s'.o ∧ DrI K M a s' ∧ Kd M d ∧ Bad d) ⟨s1, none, none, d, rfl, rfl, I1, kd.dr I, bd⟩ ?_ ?_
  · rintro ρ M ⟨s', e1, e2, d, rfl, rfl, I', kd, bd⟩
    refine ⟨trivial, ?_⟩
    wtm_at "go"
    exact RtM.mk (q _ _ kd bd I')
  · rintro d0 rest ρ M K2 hK ⟨s', e1, e2, d, rfl, rfl, I', kd, bd⟩
    refine ⟨trivial, ?_⟩
    wtm_at "go"
    refine spTaken.mk I' (by decide) (by decide) fun v s6 v0 v1 n6 I6 => ?_
    have kd6 : Kd (mput (mput m a s'.o) a s6.o) d := kd.dr I'
    rw [mput_mput] at I6 kd6 ⊢
    wtm_at "go"
    refine i_ite (fun c1 => ?_) (fun c1 => ?_)
    · wtm_at "go"
      refine hK _ _ ⟨s6, _, _, _, rfl, rfl, I6, by wtm_at "kdt", fun n hn => bad_con bd _ (fun k z => ?_) hn⟩
      simp [okCon, ofString_inj] at z; exact z.2
    · have c1 := of_decide_eq_false c1
      wtm_at "go"
      refine i_ite (fun c2 => ?_) (fun c2 => ?_)
      · wtm_at "go"
        refine hK _ _ ⟨s6, _, _, _, rfl, rfl, I6, by wtm_at "kdt", fun n hn => bad_con bd _ (fun k z => ?_) hn⟩
        simp [okCon, ofString_inj] at z; exact z.2
      · have c2 := of_decide_eq_false c2
        wtm_at "go"
        refine i_ite (fun c3 => ?_) (fun c3 => ?_)
        · wtm_at "go"
          refine hK _ _ ⟨s6, _, _, _, rfl, rfl, I6, by wtm_at "kdt", fun n hn => bad_con bd _ (fun k z => ?_) hn⟩
          simp [okCon, ofString_inj] at z; exact z.1.2
        · wtm_at "go"
          refine hK _ _ ⟨s6, _, _, _, rfl, rfl, I6, by wtm_at "kdt", fun n hn => bad_con bd _ (fun k z => ?_) hn⟩
          simp [okCon, ofString_inj] at z; exact z.2
def deepD : Nat → D
  | 0 => .tup [.str "none"]
  | n + 1 => .tup [.str "later", .int (n : Nat), deepD n]
def notD : Nat → D
  | 0 => .tup [.str "below", .tup [.str "num", .int 1], .tup [.str "num", .int 1]]
  | n + 1 => .tup [.str "not", notD n]
local macro_rules | `(tactic| wtm_at "kdt") => `(tactic| (repeat' first | with_reducible assumption | with_reducible exact kdA_nil | with_reducible refine kdA_cons ?_ ?_ | with_reducible refine kdA_app ?_ ?_ | with_reducible exact Kd.non | with_reducible exact Kd.int _ | with_reducible exact Kd.bl _ | with_reducible exact kd_tup0 | ((with_reducible refine kd_tup ?_ ?_); (focus rfl)) | (refine Kd.str _ ?_ ?_ <;> decide +kernel)))
theorem notD_kd {m : Mem} : ∀ n, Kd m (notD n)
  | 0 => by unfold notD; wtm_at "kdt"
  | n + 1 => by
    have := notD_kd (m := m) n
    unfold notD; wtm_at "kdt"
theorem deepD_kd {m : Mem} : ∀ n, Kd m (deepD n)
  | 0 => by unfold deepD; wtm_at "kdt"
  | n + 1 => by
    have := deepD_kd (m := m) n
    unfold deepD; wtm_at "kdt"
theorem rd11 : rangeD 0 11 = (List.range 11).map fun i : Nat => D.int i := by simp [rangeD]
theorem rangeD_drop {n k : Nat} {d : D} {r : List D} (h : d :: r = (rangeD 0 n).drop k) : d = .int (k : Nat) ∧ r = (rangeD 0 n).drop (k + 1) ∧ k < n := by
  have hl : k < (rangeD 0 n).length := by
    refine Nat.lt_of_not_le fun z => ?_
    rw [List.drop_eq_nil_of_le z] at h; cases h
  rw [List.drop_eq_getElem_cons hl] at h
  injection h with h1 h2
  have hn : k < n := by simpa [rangeD] using hl
  refine ⟨h1.trans ?_, h2, hn⟩
  simp [rangeD]
theorem rangeD_nil {n k : Nat} (h : [] = (rangeD 0 n).drop k) (hk : k ≤ n) : k = n := by
  have := congrArg List.length h
  simp [rangeD] at this
  omega
theorem eq_strs {m : Mem} {p q : Addr} {xs ys : List Str} (h1 : rdM m p = some (.lst (xs.map .str))) (h2 : rdM m q = some (.lst (ys.map .str))) (sx : SeqAt.shaped (.list (xs.map .str)) = true) (sy : SeqAt.shaped (.list (ys.map .str)) = true) (k : Bool) (hk : k = PyData.eqv (.list (xs.map .str)) (.list (ys.map .str))) : EqB m (.ref p) (.ref q) k := by
  have va : ∀ zs : List Str, VwA m (zs.map .str) (zs.map .str) := fun zs => by
    induction zs with
    | nil => exact .nil
    | cons z zs ih => exact .cons (.str z) ih
  exact .inr (.inl ⟨_, _, .lst h1 (va xs), .lst h2 (va ys), sx, sy, hk⟩)
theorem spDrawn.mk {K : PySem.W.Frag} {m : Mem} {Q : KM} {Em : XM} {a : Addr} {s : Dr} {many : Int} (h0 : 0 ≤ many) (h4 : many ≤ 4) (I : DrI K m a s) (B : DrB s)
    (q : ∀ (c : Con) s' m', c.of (wordOf s) (namesOf s many.toNat) → c.dw → s.sw s' → DrI K m' a s' → DrN m' s' (namesOf s many.toNat) → Kp a m m' → Q c.d m') : spDrawn K [.ref a, .int many] m Q Em :=
  ⟨a, s, many.toNat, by rw [show ((many.toNat : Nat) : Int) = many by omega], by omega, I, B, q⟩
theorem DrI.sub' {K : PySem.W.Frag} {m M : Mem} {a : Addr} {s : Dr} (h : DrI K m a s) (t : Sub m M) : DrI K M a s := by
  obtain ⟨ns, l, z⟩ := h.sc
  exact ⟨t _ _ h.e, ⟨ns, l.sub t, z⟩, h.at0, h.rest0, h.mix0, h.mix1⟩
abbrev s_law : Stmt := topS 39
theorem sc_law : FnScope ["_law_script", "_law_s", "_law_contract_here", "_law_deep", "_law_k", "_law_asked_here", "_law_asks"] ["_law_script"] (defScope s_law) := ⟨rfl, rfl, rfl, by decide +kernel, rfl, by decide +kernel, by decide +kernel⟩
theorem ok_law {k : Nat} (Z : Bl mg) {f__law_begun : Addr} {fd__law_begun : FuncData} (D__law_begun : Df K mg "_law_begun" f__law_begun fd__law_begun ["_law_script"]) (G__law_begun : FnM P w K mg base CX0 (k) f__law_begun fd__law_begun ["_law_script"] (spBegun K)) {f__law_taken : Addr} {fd__law_taken : FuncData} (D__law_taken : Df K mg "_law_taken" f__law_taken fd__law_taken ["_law_s", "_law_most"]) (G__law_taken : FnM P w K mg base CX0 (k) f__law_taken fd__law_taken ["_law_s", "_law_most"] (spTaken K)) {f__law_drawn : Addr} {fd__law_drawn : FuncData} (D__law_drawn : Df K mg "_law_drawn" f__law_drawn fd__law_drawn ["_law_s", "_law_many"]) (G__law_drawn : FnM P w K mg base CX0 (k) f__law_drawn fd__law_drawn ["_law_s", "_law_many"] (spDrawn K)) {f__law_refused : Addr} {fd__law_refused : FuncData} (D__law_refused : Df K mg "_law_refused" f__law_refused fd__law_refused ["_law_contract_here"]) (G__law_refused : FnM P w K mg base CX0 (k) f__law_refused fd__law_refused ["_law_contract_here"] (gRefd)) {f__law_bad : Addr} {fd__law_bad : FuncData} (D__law_bad : Df K mg "_law_bad" f__law_bad fd__law_bad ["_law_way"]) (G__law_bad : FnM P w K mg base CX0 (k) f__law_bad fd__law_bad ["_law_way"] (spBad)) {f__law_around : Addr} {fd__law_around : FuncData} (D__law_around : Df K mg "_law_around" f__law_around fd__law_around ["_law_s", "_law_contract_here"]) (G__law_around : FnM P w K mg base CX0 (k) f__law_around fd__law_around ["_law_s", "_law_contract_here"] (spAround K)) {c_BadContract : Addr} {f_need_contract : Addr} {fd_need_contract : FuncData} (D_need_contract : Df K mg "need_contract" f_need_contract fd_need_contract ["contract"]) (G_need_contract : FnM P w K mg base (L2.CX P w) (k) f_need_contract fd_need_contract ["contract"] (gNeedCon c_BadContract)) {f_law : Addr} {fd_law : FuncData} (F : Fun K "law" "law" s_law f_law fd_law) : FnM P w K mg base CX0 (k + 1) f_law fd_law ["_law_script"] (spLaw K) := by
  refine fn_m F sc_law (fun ds m Q E h => ?_) (fun cdv A outer s H ds m Q E E' hr h => ?_)
  · obtain ⟨c, ns, rfl, _⟩ := h; rfl
  have nd := sc_law.nd
  obtain ⟨c, ns, rfl, hL, hl, q⟩ := h
  refine ⟨_, (mss_cons (ms_set (i := 1) nd rfl (.inl rfl) (mx_call (Em := noX) G__law_begun hr D__law_begun.m D__law_begun.k D__law_begun.b pass0M (ma_cons (mv 0) ma_nil)))
    (mss_cons (ms_set (i := 2) nd rfl (.inl rfl) (mx_call (Em := noX) G__law_drawn hr D__law_drawn.m D__law_drawn.k D__law_drawn.b pass0M (ma_cons (mv 1) (ma_cons mx_int ma_nil))))
    (mss_cons (ms_if (mw_pt (mw_or (mt_cmp (mo_neq hr) (mx_call (Em := noX) G__law_refused hr D__law_refused.m D__law_refused.k D__law_refused.b pass0M (ma_cons (mv 2) ma_nil)) mx_str (nomark _)) (mw_or1 (mt_cmp mo_notN (mx_call (Em := noX) G_need_contract hr D_need_contract.m D_need_contract.k D_need_contract.b passX0 (ma_cons (mv 2) ma_nil)) mx_non (nomark _))))) (mss_one (ms_ret mx_bl)) mss_nil)
    (mss_cons (ms_if (mt_cmp (mo_neq hr) (mx_call (Em := noX) G__law_refused hr D__law_refused.m D__law_refused.k D__law_refused.b pass0M (ma_cons (mx_call (Em := noX) G__law_around hr D__law_around.m D__law_around.k D__law_around.b pass0M (ma_cons (mv 1) (ma_cons (mx_call (Em := noX) G__law_bad hr D__law_bad.m D__law_bad.k D__law_bad.b pass0M (ma_cons (mx_call (Em := noX) G__law_taken hr D__law_taken.m D__law_taken.k D__law_taken.b pass0M (ma_cons (mv 1) (ma_cons mx_int ma_nil))) ma_nil)) ma_nil))) ma_nil)) mx_str (nomark _)) (mss_one (ms_ret mx_bl)) mss_nil)
    (mss_cons (ms_set (i := 3) nd rfl (.inl rfl) (mx_tup (ma_cons mx_str ma_nil)))
    (mss_cons (ms_for PassesOwn.never rfl (mi_range1 Z.b_range (ma_cons mx_int ma_nil)) (mg_name (i := 4) nd rfl (.inl rfl)) (mss_one (ms_set (i := 3) nd rfl (.inl rfl) (mx_tup (ma_cons mx_str (ma_cons (mv 4) (ma_cons (mv 3) ma_nil)))))))
    (mss_cons (ms_set (i := 5) nd rfl (.inl rfl) (mx_tup (ma_cons mx_str (ma_cons (mx_tup (ma_cons mx_str (ma_cons mx_int ma_nil))) (ma_cons (mx_tup (ma_cons mx_str (ma_cons mx_int ma_nil))) ma_nil)))))
    (mss_cons (ms_for PassesOwn.never rfl (mi_range1 Z.b_range (ma_cons mx_int ma_nil)) (mg_name (i := 4) nd rfl (.inl rfl)) (mss_one (ms_set (i := 5) nd rfl (.inl rfl) (mx_tup (ma_cons mx_str (ma_cons (mv 5) ma_nil))))))
    (mss_cons (ms_set (i := 6) nd rfl (.inl rfl) (mx_lst (ma_cons (mx_call (Em := noX) G__law_refused hr D__law_refused.m D__law_refused.k D__law_refused.b pass0M (ma_cons (mx_tup (ma_cons mx_str (ma_cons (mv 5) (ma_cons (mx_tup (ma_cons mx_str ma_nil)) ma_nil)))) ma_nil)) (ma_cons (mx_call (Em := noX) G__law_refused hr D__law_refused.m D__law_refused.k D__law_refused.b pass0M (ma_cons (mx_tup (ma_cons mx_str (ma_cons (mx_tup (ma_cons mx_str (ma_cons (mv 5) ma_nil))) (ma_cons (mx_tup (ma_cons mx_str ma_nil)) ma_nil)))) ma_nil)) ma_nil))))
    (mss_one (ms_ret (mx_and (mx_cmp (mo_eqq hr) (mx_call (Em := noX) G__law_refused hr D__law_refused.m D__law_refused.k D__law_refused.b pass0M (ma_cons (mv 3) ma_nil)) mx_str (nomark _)) (mx_and (mx_cmp (mo_eqq hr) (mx_call (Em := noX) G__law_refused hr D__law_refused.m D__law_refused.k D__law_refused.b pass0M (ma_cons (mx_tup (ma_cons mx_str (ma_cons mx_int (ma_cons (mv 3) ma_nil)))) ma_nil)) mx_str (nomark _)) (mx_one (mx_cmp (mo_eqq hr) (mv 6) (mx_lst (ma_cons mx_str (ma_cons mx_str ma_nil))) (nomark _)))))))))))))))), ?_⟩
  wtm_at "go"
  refine ⟨c, ns, rfl, hL, hl, fun a s m1 ea ha S1 I B N0 nea => ?_⟩
  wtm_at "go"
  refine spDrawn.mk (by decide) (by decide) I B fun c1 s2 m2 hx hd sw I2 N2 kp => ?_
  have w2 : wordOf s2 = wordOf s := wordOf_sw sw
  have hnw := namesOf_wd (n := (2 : Int).toNat) B
  have kc : Kd m2 c1.d := Con.kd B hx
  have oc : okCon 12 c1.d = true := okCon_of B hnw hx (by have := hd.dp; omega)
  wtm_at "go"
  refine ⟨_, rfl, kc, ?_⟩
  rw [oc]
  wtm_at "go"
  refine ⟨_, rfl, kc, ?_⟩
  rw [oc]
  wtm_at "go"
  refine spTaken.mk I2 (by decide) (by decide) fun v s3 v0 v1 n3 I3 => ?_
  wtm_at "go"
  refine ⟨v, rfl, v0, v1, fun d M sM kM bM => ?_⟩
  wtm_at "go"
  refine ⟨a, s3, d, rfl, I3.sub' sM, kM, bM, fun e s4 ke be I4 => ?_⟩
  wtm_at "go"
  refine ⟨e, rfl, ke, ?_⟩
  rw [be 12 (by decide)]
  wtm_at "go"
  generalize mput M a s4.o = M4
  refine ⟨by decide, by decide, ?_⟩
  refine forC_ind (fun rest ρ M => ∃ (k : Nat) (e1 : Option D), k ≤ 11 ∧ rest = (rangeD 0 11).drop k ∧ M = M4 ∧ ρ = [some (.ref c), some (.ref a), some c1.d, some (deepD k), e1, none, none]) ⟨0, none, by decide, rfl, rfl, rfl⟩ ?_ ?_
  rotate_left
  · rintro d0 rest ρ M K2 hK ⟨k, e1, hk, er, rfl, rfl⟩
    obtain ⟨rfl, er, hk⟩ := rangeD_drop er
    refine ⟨trivial, ?_⟩
    wtm_at "go"
    exact hK _ _ ⟨k + 1, _, hk, er, rfl, rfl⟩
  rintro ρ M ⟨k, e1, hk, er, rfl, rfl⟩
  obtain rfl := rangeD_nil er hk
  refine ⟨trivial, ?_⟩
  wtm_at "go"
  refine ⟨by decide, by decide, ?_⟩
  generalize M = M4
  refine forC_ind (fun rest ρ M => ∃ (k : Nat) (e1 : Option D), k ≤ 9 ∧ rest = (rangeD 0 9).drop k ∧ M = M4 ∧ ρ = [some (.ref c), some (.ref a), some c1.d, some (deepD 11), e1, some (notD k), none]) ⟨0, _, by decide, rfl, rfl, rfl⟩ ?_ ?_
  rotate_left
  · rintro d0 rest ρ M K2 hK ⟨k, e1, hk, er, rfl, rfl⟩
    obtain ⟨rfl, er, hk⟩ := rangeD_drop er
    refine ⟨trivial, ?_⟩
    wtm_at "go"
    exact hK _ _ ⟨k + 1, _, hk, er, rfl, rfl⟩
  rintro ρ M ⟨k, e1, hk, er, rfl, rfl⟩
  obtain rfl := rangeD_nil er hk
  refine ⟨trivial, ?_⟩
  have kn := notD_kd (m := M) 9
  have kde := deepD_kd (m := M) 11
  wtm_at "go"
  refine ⟨_, rfl, by wtm_at "kdt", ?_⟩
  rw [show okCon 12 (.tup [.str "when", notD 9, .tup [.str "none"]]) = true by decide +kernel]
  wtm_at "go"
  refine ⟨_, rfl, by wtm_at "kdt", ?_⟩
  rw [show okCon 12 (.tup [.str "when", .tup [.str "not", notD 9], .tup [.str "none"]]) = false by decide +kernel]
  wtm_at "go"
  intro p hp
  wtm_at "go"
  refine ⟨_, rfl, kde.sub (Sub.refl.new hp), ?_⟩
  rw [show okCon 12 (deepD 11) = true by decide +kernel]
  wtm_at "go"
  have kde2 := fun o => kde.sub (Sub.refl.new (o := o) hp)
  refine ⟨_, rfl, kd_tup rfl (kdA_cons (by wtm_at "kdt") (kdA_cons (.int _) (kdA_cons (kde2 _) kdA_nil))), ?_⟩
  rw [show okCon 12 (.tup [.str "later", .int 1, deepD 11]) = false by decide +kernel]
  wtm_at "go"
  intro p2 hp2
  wtm_at "go"
  refine ⟨_, eq_strs (xs := ["good", "bad"]) (ys := ["good", "bad"]) (rd_L (mput_new hp2 mput_same)) (rd_L mput_same) (by decide +kernel) (by decide +kernel) true (by decide +kernel), ?_⟩
  exact RtM.mk (q _)

set_option maxHeartbeats 0 in
theorem all_mk {l : PySem.W.OpenLaw} {w : World} {K : PySem.W.Frag} {h : Heap} {mg : Str → Option Value} {fa f_must f_is_word f_need_number f_need_tuple f_need_told f_need_asked f_need_sides f_look f_need_contract f_within f__law_begun f__law_taken f__law_word f__law_number f__law_told f__law_asked f__law_sides f__law_good f__law_give f__law_contract f__law_drawn f__law_refused f__law_bad f__law_around f_law : Addr} (X : K.In h) (G : h.Ns mainGlobals mg) (hfa : mg "law" = some (.ref fa))
    {od_must an_must od_is_word an_is_word od_need_number an_need_number od_need_tuple an_need_tuple od_need_told an_need_told od_need_asked an_need_asked od_need_sides an_need_sides od_look an_look od_need_contract an_need_contract od_within an_within od__law_begun an__law_begun od__law_taken an__law_taken od__law_word an__law_word od__law_number an__law_number od__law_told an__law_told od__law_asked an__law_asked od__law_sides an__law_sides od__law_good an__law_good od__law_give an__law_give od__law_contract an__law_contract od__law_drawn an__law_drawn od__law_refused an__law_refused od__law_bad an__law_bad od__law_around an__law_around od_law an_law : Option Addr} {sl_must sl_is_word sl_need_number sl_need_tuple sl_need_told sl_need_asked sl_need_sides sl_look sl_need_contract sl_within sl__law_begun sl__law_taken sl__law_word sl__law_number sl__law_told sl__law_asked sl__law_sides sl__law_good sl__law_give sl__law_contract sl__law_drawn sl__law_refused sl__law_bad sl__law_around sl_law : Array (Option Value)} {oc_must kV_must dc_must pm_must cd_must ct_must oc_is_word kV_is_word dc_is_word pm_is_word cd_is_word ct_is_word oc_need_number kV_need_number dc_need_number pm_need_number cd_need_number ct_need_number oc_need_tuple kV_need_tuple dc_need_tuple pm_need_tuple cd_need_tuple ct_need_tuple oc_need_told kV_need_told dc_need_told pm_need_told cd_need_told ct_need_told oc_need_asked kV_need_asked dc_need_asked pm_need_asked cd_need_asked ct_need_asked oc_need_sides kV_need_sides dc_need_sides pm_need_sides cd_need_sides ct_need_sides oc_look kV_look dc_look pm_look cd_look ct_look oc_need_contract kV_need_contract dc_need_contract pm_need_contract cd_need_contract ct_need_contract oc_within kV_within dc_within pm_within cd_within ct_within oc__law_begun kV__law_begun dc__law_begun pm__law_begun cd__law_begun ct__law_begun oc__law_taken kV__law_taken dc__law_taken pm__law_taken cd__law_taken ct__law_taken oc__law_word kV__law_word dc__law_word pm__law_word cd__law_word ct__law_word oc__law_number kV__law_number dc__law_number pm__law_number cd__law_number ct__law_number oc__law_told kV__law_told dc__law_told pm__law_told cd__law_told ct__law_told oc__law_asked kV__law_asked dc__law_asked pm__law_asked cd__law_asked ct__law_asked oc__law_sides kV__law_sides dc__law_sides pm__law_sides cd__law_sides ct__law_sides oc__law_good kV__law_good dc__law_good pm__law_good cd__law_good ct__law_good oc__law_give kV__law_give dc__law_give pm__law_give cd__law_give ct__law_give oc__law_contract kV__law_contract dc__law_contract pm__law_contract cd__law_contract ct__law_contract oc__law_drawn kV__law_drawn dc__law_drawn pm__law_drawn cd__law_drawn ct__law_drawn oc__law_refused kV__law_refused dc__law_refused pm__law_refused cd__law_refused ct__law_refused oc__law_bad kV__law_bad dc__law_bad pm__law_bad cd__law_bad ct__law_bad oc__law_around kV__law_around dc__law_around pm__law_around cd__law_around ct__law_around oc_law kV_law dc_law pm_law cd_law ct_law : Value}
    (a_must : PySem.W.nsIn K mainGlobals "must" = some (some (.ref f_must))) (l_must : K.lookup f_must = some ⟨oc_must, od_must, .func (PySem.W.fnOf "must" "must" (defArgs s_must) (defBody s_must) (defScope s_must) .none kV_must dc_must pm_must an_must cd_must ct_must), sl_must⟩) (c_must : PySem.W.codeIn K cd_must "must" = true) (k_must : PySem.W.keepIn K (.ref f_must) = true)
    (a_is_word : PySem.W.nsIn K mainGlobals "is_word" = some (some (.ref f_is_word))) (l_is_word : K.lookup f_is_word = some ⟨oc_is_word, od_is_word, .func (PySem.W.fnOf "is_word" "is_word" (defArgs s_is_word) (defBody s_is_word) (defScope s_is_word) .none kV_is_word dc_is_word pm_is_word an_is_word cd_is_word ct_is_word), sl_is_word⟩) (c_is_word : PySem.W.codeIn K cd_is_word "is_word" = true) (k_is_word : PySem.W.keepIn K (.ref f_is_word) = true)
    (a_need_number : PySem.W.nsIn K mainGlobals "need_number" = some (some (.ref f_need_number))) (l_need_number : K.lookup f_need_number = some ⟨oc_need_number, od_need_number, .func (PySem.W.fnOf "need_number" "need_number" (defArgs s_need_number) (defBody s_need_number) (defScope s_need_number) .none kV_need_number dc_need_number pm_need_number an_need_number cd_need_number ct_need_number), sl_need_number⟩) (c_need_number : PySem.W.codeIn K cd_need_number "need_number" = true) (k_need_number : PySem.W.keepIn K (.ref f_need_number) = true)
    (a_need_tuple : PySem.W.nsIn K mainGlobals "need_tuple" = some (some (.ref f_need_tuple))) (l_need_tuple : K.lookup f_need_tuple = some ⟨oc_need_tuple, od_need_tuple, .func (PySem.W.fnOf "need_tuple" "need_tuple" (defArgs s_need_tuple) (defBody s_need_tuple) (defScope s_need_tuple) .none kV_need_tuple dc_need_tuple pm_need_tuple an_need_tuple cd_need_tuple ct_need_tuple), sl_need_tuple⟩) (c_need_tuple : PySem.W.codeIn K cd_need_tuple "need_tuple" = true) (k_need_tuple : PySem.W.keepIn K (.ref f_need_tuple) = true)
    (a_need_told : PySem.W.nsIn K mainGlobals "need_told" = some (some (.ref f_need_told))) (l_need_told : K.lookup f_need_told = some ⟨oc_need_told, od_need_told, .func (PySem.W.fnOf "need_told" "need_told" (defArgs s_need_told) (defBody s_need_told) (defScope s_need_told) .none kV_need_told dc_need_told pm_need_told an_need_told cd_need_told ct_need_told), sl_need_told⟩) (c_need_told : PySem.W.codeIn K cd_need_told "need_told" = true) (k_need_told : PySem.W.keepIn K (.ref f_need_told) = true)
    (a_need_asked : PySem.W.nsIn K mainGlobals "need_asked" = some (some (.ref f_need_asked))) (l_need_asked : K.lookup f_need_asked = some ⟨oc_need_asked, od_need_asked, .func (PySem.W.fnOf "need_asked" "need_asked" (defArgs s_need_asked) (defBody s_need_asked) (defScope s_need_asked) .none kV_need_asked dc_need_asked pm_need_asked an_need_asked cd_need_asked ct_need_asked), sl_need_asked⟩) (c_need_asked : PySem.W.codeIn K cd_need_asked "need_asked" = true) (k_need_asked : PySem.W.keepIn K (.ref f_need_asked) = true)
    (a_need_sides : PySem.W.nsIn K mainGlobals "need_sides" = some (some (.ref f_need_sides))) (l_need_sides : K.lookup f_need_sides = some ⟨oc_need_sides, od_need_sides, .func (PySem.W.fnOf "need_sides" "need_sides" (defArgs s_need_sides) (defBody s_need_sides) (defScope s_need_sides) .none kV_need_sides dc_need_sides pm_need_sides an_need_sides cd_need_sides ct_need_sides), sl_need_sides⟩) (c_need_sides : PySem.W.codeIn K cd_need_sides "need_sides" = true) (k_need_sides : PySem.W.keepIn K (.ref f_need_sides) = true)
    (a_look : PySem.W.nsIn K mainGlobals "look" = some (some (.ref f_look))) (l_look : K.lookup f_look = some ⟨oc_look, od_look, .func (PySem.W.fnOf "look" "look" (defArgs s_look) (defBody s_look) (defScope s_look) .none kV_look dc_look pm_look an_look cd_look ct_look), sl_look⟩) (c_look : PySem.W.codeIn K cd_look "look" = true) (k_look : PySem.W.keepIn K (.ref f_look) = true)
    (a_need_contract : PySem.W.nsIn K mainGlobals "need_contract" = some (some (.ref f_need_contract))) (l_need_contract : K.lookup f_need_contract = some ⟨oc_need_contract, od_need_contract, .func (PySem.W.fnOf "need_contract" "need_contract" (defArgs s_need_contract) (defBody s_need_contract) (defScope s_need_contract) .none kV_need_contract dc_need_contract pm_need_contract an_need_contract cd_need_contract ct_need_contract), sl_need_contract⟩) (c_need_contract : PySem.W.codeIn K cd_need_contract "need_contract" = true) (k_need_contract : PySem.W.keepIn K (.ref f_need_contract) = true)
    (a_within : PySem.W.nsIn K mainGlobals "within" = some (some (.ref f_within))) (l_within : K.lookup f_within = some ⟨oc_within, od_within, .func (PySem.W.fnOf "within" "within" (defArgs s_within) (defBody s_within) (defScope s_within) .none kV_within dc_within pm_within an_within cd_within ct_within), sl_within⟩) (c_within : PySem.W.codeIn K cd_within "within" = true) (k_within : PySem.W.keepIn K (.ref f_within) = true)
    (a__law_begun : PySem.W.nsIn K mainGlobals "_law_begun" = some (some (.ref f__law_begun))) (l__law_begun : K.lookup f__law_begun = some ⟨oc__law_begun, od__law_begun, .func (PySem.W.fnOf "_law_begun" "_law_begun" (defArgs s__law_begun) (defBody s__law_begun) (defScope s__law_begun) .none kV__law_begun dc__law_begun pm__law_begun an__law_begun cd__law_begun ct__law_begun), sl__law_begun⟩) (c__law_begun : PySem.W.codeIn K cd__law_begun "_law_begun" = true) (k__law_begun : PySem.W.keepIn K (.ref f__law_begun) = true)
    (a__law_taken : PySem.W.nsIn K mainGlobals "_law_taken" = some (some (.ref f__law_taken))) (l__law_taken : K.lookup f__law_taken = some ⟨oc__law_taken, od__law_taken, .func (PySem.W.fnOf "_law_taken" "_law_taken" (defArgs s__law_taken) (defBody s__law_taken) (defScope s__law_taken) .none kV__law_taken dc__law_taken pm__law_taken an__law_taken cd__law_taken ct__law_taken), sl__law_taken⟩) (c__law_taken : PySem.W.codeIn K cd__law_taken "_law_taken" = true) (k__law_taken : PySem.W.keepIn K (.ref f__law_taken) = true)
    (a__law_word : PySem.W.nsIn K mainGlobals "_law_word" = some (some (.ref f__law_word))) (l__law_word : K.lookup f__law_word = some ⟨oc__law_word, od__law_word, .func (PySem.W.fnOf "_law_word" "_law_word" (defArgs s__law_word) (defBody s__law_word) (defScope s__law_word) .none kV__law_word dc__law_word pm__law_word an__law_word cd__law_word ct__law_word), sl__law_word⟩) (c__law_word : PySem.W.codeIn K cd__law_word "_law_word" = true) (k__law_word : PySem.W.keepIn K (.ref f__law_word) = true)
    (a__law_number : PySem.W.nsIn K mainGlobals "_law_number" = some (some (.ref f__law_number))) (l__law_number : K.lookup f__law_number = some ⟨oc__law_number, od__law_number, .func (PySem.W.fnOf "_law_number" "_law_number" (defArgs s__law_number) (defBody s__law_number) (defScope s__law_number) .none kV__law_number dc__law_number pm__law_number an__law_number cd__law_number ct__law_number), sl__law_number⟩) (c__law_number : PySem.W.codeIn K cd__law_number "_law_number" = true) (k__law_number : PySem.W.keepIn K (.ref f__law_number) = true)
    (a__law_told : PySem.W.nsIn K mainGlobals "_law_told" = some (some (.ref f__law_told))) (l__law_told : K.lookup f__law_told = some ⟨oc__law_told, od__law_told, .func (PySem.W.fnOf "_law_told" "_law_told" (defArgs s__law_told) (defBody s__law_told) (defScope s__law_told) .none kV__law_told dc__law_told pm__law_told an__law_told cd__law_told ct__law_told), sl__law_told⟩) (c__law_told : PySem.W.codeIn K cd__law_told "_law_told" = true) (k__law_told : PySem.W.keepIn K (.ref f__law_told) = true)
    (a__law_asked : PySem.W.nsIn K mainGlobals "_law_asked" = some (some (.ref f__law_asked))) (l__law_asked : K.lookup f__law_asked = some ⟨oc__law_asked, od__law_asked, .func (PySem.W.fnOf "_law_asked" "_law_asked" (defArgs s__law_asked) (defBody s__law_asked) (defScope s__law_asked) .none kV__law_asked dc__law_asked pm__law_asked an__law_asked cd__law_asked ct__law_asked), sl__law_asked⟩) (c__law_asked : PySem.W.codeIn K cd__law_asked "_law_asked" = true) (k__law_asked : PySem.W.keepIn K (.ref f__law_asked) = true)
    (a__law_sides : PySem.W.nsIn K mainGlobals "_law_sides" = some (some (.ref f__law_sides))) (l__law_sides : K.lookup f__law_sides = some ⟨oc__law_sides, od__law_sides, .func (PySem.W.fnOf "_law_sides" "_law_sides" (defArgs s__law_sides) (defBody s__law_sides) (defScope s__law_sides) .none kV__law_sides dc__law_sides pm__law_sides an__law_sides cd__law_sides ct__law_sides), sl__law_sides⟩) (c__law_sides : PySem.W.codeIn K cd__law_sides "_law_sides" = true) (k__law_sides : PySem.W.keepIn K (.ref f__law_sides) = true)
    (a__law_good : PySem.W.nsIn K mainGlobals "_law_good" = some (some (.ref f__law_good))) (l__law_good : K.lookup f__law_good = some ⟨oc__law_good, od__law_good, .func (PySem.W.fnOf "_law_good" "_law_good" (defArgs s__law_good) (defBody s__law_good) (defScope s__law_good) .none kV__law_good dc__law_good pm__law_good an__law_good cd__law_good ct__law_good), sl__law_good⟩) (c__law_good : PySem.W.codeIn K cd__law_good "_law_good" = true) (k__law_good : PySem.W.keepIn K (.ref f__law_good) = true)
    (a__law_give : PySem.W.nsIn K mainGlobals "_law_give" = some (some (.ref f__law_give))) (l__law_give : K.lookup f__law_give = some ⟨oc__law_give, od__law_give, .func (PySem.W.fnOf "_law_give" "_law_give" (defArgs s__law_give) (defBody s__law_give) (defScope s__law_give) .none kV__law_give dc__law_give pm__law_give an__law_give cd__law_give ct__law_give), sl__law_give⟩) (c__law_give : PySem.W.codeIn K cd__law_give "_law_give" = true) (k__law_give : PySem.W.keepIn K (.ref f__law_give) = true)
    (a__law_contract : PySem.W.nsIn K mainGlobals "_law_contract" = some (some (.ref f__law_contract))) (l__law_contract : K.lookup f__law_contract = some ⟨oc__law_contract, od__law_contract, .func (PySem.W.fnOf "_law_contract" "_law_contract" (defArgs s__law_contract) (defBody s__law_contract) (defScope s__law_contract) .none kV__law_contract dc__law_contract pm__law_contract an__law_contract cd__law_contract ct__law_contract), sl__law_contract⟩) (c__law_contract : PySem.W.codeIn K cd__law_contract "_law_contract" = true) (k__law_contract : PySem.W.keepIn K (.ref f__law_contract) = true)
    (a__law_drawn : PySem.W.nsIn K mainGlobals "_law_drawn" = some (some (.ref f__law_drawn))) (l__law_drawn : K.lookup f__law_drawn = some ⟨oc__law_drawn, od__law_drawn, .func (PySem.W.fnOf "_law_drawn" "_law_drawn" (defArgs s__law_drawn) (defBody s__law_drawn) (defScope s__law_drawn) .none kV__law_drawn dc__law_drawn pm__law_drawn an__law_drawn cd__law_drawn ct__law_drawn), sl__law_drawn⟩) (c__law_drawn : PySem.W.codeIn K cd__law_drawn "_law_drawn" = true) (k__law_drawn : PySem.W.keepIn K (.ref f__law_drawn) = true)
    (a__law_refused : PySem.W.nsIn K mainGlobals "_law_refused" = some (some (.ref f__law_refused))) (l__law_refused : K.lookup f__law_refused = some ⟨oc__law_refused, od__law_refused, .func (PySem.W.fnOf "_law_refused" "_law_refused" (defArgs s__law_refused) (defBody s__law_refused) (defScope s__law_refused) .none kV__law_refused dc__law_refused pm__law_refused an__law_refused cd__law_refused ct__law_refused), sl__law_refused⟩) (c__law_refused : PySem.W.codeIn K cd__law_refused "_law_refused" = true) (k__law_refused : PySem.W.keepIn K (.ref f__law_refused) = true)
    (a__law_bad : PySem.W.nsIn K mainGlobals "_law_bad" = some (some (.ref f__law_bad))) (l__law_bad : K.lookup f__law_bad = some ⟨oc__law_bad, od__law_bad, .func (PySem.W.fnOf "_law_bad" "_law_bad" (defArgs s__law_bad) (defBody s__law_bad) (defScope s__law_bad) .none kV__law_bad dc__law_bad pm__law_bad an__law_bad cd__law_bad ct__law_bad), sl__law_bad⟩) (c__law_bad : PySem.W.codeIn K cd__law_bad "_law_bad" = true) (k__law_bad : PySem.W.keepIn K (.ref f__law_bad) = true)
    (a__law_around : PySem.W.nsIn K mainGlobals "_law_around" = some (some (.ref f__law_around))) (l__law_around : K.lookup f__law_around = some ⟨oc__law_around, od__law_around, .func (PySem.W.fnOf "_law_around" "_law_around" (defArgs s__law_around) (defBody s__law_around) (defScope s__law_around) .none kV__law_around dc__law_around pm__law_around an__law_around cd__law_around ct__law_around), sl__law_around⟩) (c__law_around : PySem.W.codeIn K cd__law_around "_law_around" = true) (k__law_around : PySem.W.keepIn K (.ref f__law_around) = true)
    (a_law : PySem.W.nsIn K mainGlobals "law" = some (some (.ref f_law))) (l_law : K.lookup f_law = some ⟨oc_law, od_law, .func (PySem.W.fnOf "law" "law" (defArgs s_law) (defBody s_law) (defScope s_law) .none kV_law dc_law pm_law an_law cd_law ct_law), sl_law⟩) (c_law : PySem.W.codeIn K cd_law "law" = true) (k_law : PySem.W.keepIn K (.ref f_law) = true)
    {t_JOINS : Addr} {odt_JOINS : Option Addr} {tn_JOINS : Nat} {ts_JOINS : Array (Option Value)} {tk0_JOINS tk1_JOINS tk2_JOINS tk3_JOINS tk4_JOINS : Tok}
    (g_JOINS : PySem.W.nsIn K mainGlobals "JOINS" = some (some (.ref t_JOINS))) (w_JOINS : K.lookup t_JOINS = some ⟨.type "tuple", odt_JOINS, .seq #[.str "plus" tk0_JOINS, .str "minus" tk1_JOINS, .str "times" tk2_JOINS, .str "most" tk3_JOINS, .str "least" tk4_JOINS] tn_JOINS, ts_JOINS⟩)
    {tk_SMALL : Tok} (g_SMALL : PySem.W.nsIn K mainGlobals "SMALL" = some (some (.str "abcdefghijklmnopqrstuvwxyz" tk_SMALL)))
    {t_NONE : Addr} {odt_NONE : Option Addr} {tn_NONE : Nat} {ts_NONE : Array (Option Value)} {tk0_NONE : Tok}
    (g_NONE : PySem.W.nsIn K mainGlobals "NONE" = some (some (.ref t_NONE))) (w_NONE : K.lookup t_NONE = some ⟨.type "tuple", odt_NONE, .seq #[.str "none" tk0_NONE] tn_NONE, ts_NONE⟩)
    {tk_MOST_DEEP : Tok} (g_MOST_DEEP : PySem.W.nsIn K mainGlobals "MOST_DEEP" = some (some (.int 12 tk_MOST_DEEP)))
    {tk_MOST_HOURS : Tok} (g_MOST_HOURS : PySem.W.nsIn K mainGlobals "MOST_HOURS" = some (some (.int 99 tk_MOST_HOURS)))
    {tk_MOST_OFTEN : Tok} (g_MOST_OFTEN : PySem.W.nsIn K mainGlobals "MOST_OFTEN" = some (some (.int 9 tk_MOST_OFTEN)))
    {tk_GREATEST : Tok} (g_GREATEST : PySem.W.nsIn K mainGlobals "GREATEST" = some (some (.int 1000000000000 tk_GREATEST)))
    {c_BookError : Addr} (xc_BookError : PySem.W.nsIn K mainGlobals "BookError" = some (some (.ref c_BookError)))
    (xg_BookError : PySem.W.findIn K (.ref c_BookError) "__getattribute__" = some (some (.builtin "BaseException.__getattribute__")))
    (xh_BookError : PySem.W.findIn K (.ref c_BookError) "__getattr__" = some none)
    (xs_BookError : PySem.W.subIn K (.ref c_BookError) (.type "BaseException") = some true)
    (xd_BookError : PySem.W.hasDictIn K c_BookError = true)
    (xa_BookError : PySem.W.findIn K (.ref c_BookError) "__class__" = some (some (.builtin "object.__class__")))
    (xm_BookError : PySem.W.mroIn K c_BookError (.type "object") = some true)
    (xq_BookError : PySem.W.excIn K c_BookError [.type "ValueError", .type "Exception", .type "BaseException", .type "object"] "ValueError.__new__" = true)
    (xk_BookError : PySem.W.keepIn K (.ref c_BookError) = true)
    (xt_BookError : PySem.W.typeIn K (.ref c_BookError) = some (.type "type"))
    {c_BadContract : Addr} (xc_BadContract : PySem.W.nsIn K mainGlobals "BadContract" = some (some (.ref c_BadContract)))
    (xg_BadContract : PySem.W.findIn K (.ref c_BadContract) "__getattribute__" = some (some (.builtin "BaseException.__getattribute__")))
    (xh_BadContract : PySem.W.findIn K (.ref c_BadContract) "__getattr__" = some none)
    (xs_BadContract : PySem.W.subIn K (.ref c_BadContract) (.type "BaseException") = some true)
    (xd_BadContract : PySem.W.hasDictIn K c_BadContract = true)
    (xa_BadContract : PySem.W.findIn K (.ref c_BadContract) "__class__" = some (some (.builtin "object.__class__")))
    (xm_BadContract : PySem.W.mroIn K c_BadContract (.type "object") = some true)
    (xq_BadContract : PySem.W.excIn K c_BadContract [.type "ValueError", .type "Exception", .type "BaseException", .type "object"] "ValueError.__new__" = true)
    (xk_BadContract : PySem.W.keepIn K (.ref c_BadContract) = true)
    (xt_BadContract : PySem.W.typeIn K (.ref c_BadContract) = some (.type "type"))
    {c_BadMarket : Addr} (xc_BadMarket : PySem.W.nsIn K mainGlobals "BadMarket" = some (some (.ref c_BadMarket)))
    (xg_BadMarket : PySem.W.findIn K (.ref c_BadMarket) "__getattribute__" = some (some (.builtin "BaseException.__getattribute__")))
    (xh_BadMarket : PySem.W.findIn K (.ref c_BadMarket) "__getattr__" = some none)
    (xs_BadMarket : PySem.W.subIn K (.ref c_BadMarket) (.type "BaseException") = some true)
    (xd_BadMarket : PySem.W.hasDictIn K c_BadMarket = true)
    (xa_BadMarket : PySem.W.findIn K (.ref c_BadMarket) "__class__" = some (some (.builtin "object.__class__")))
    (xm_BadMarket : PySem.W.mroIn K c_BadMarket (.type "object") = some true)
    (xq_BadMarket : PySem.W.excIn K c_BadMarket [.type "ValueError", .type "Exception", .type "BaseException", .type "object"] "ValueError.__new__" = true)
    (xk_BadMarket : PySem.W.keepIn K (.ref c_BadMarket) = true)
    (xt_BadMarket : PySem.W.typeIn K (.ref c_BadMarket) = some (.type "type"))
    {c_TooMany : Addr} (xc_TooMany : PySem.W.nsIn K mainGlobals "TooMany" = some (some (.ref c_TooMany)))
    (xg_TooMany : PySem.W.findIn K (.ref c_TooMany) "__getattribute__" = some (some (.builtin "BaseException.__getattribute__")))
    (xh_TooMany : PySem.W.findIn K (.ref c_TooMany) "__getattr__" = some none)
    (xs_TooMany : PySem.W.subIn K (.ref c_TooMany) (.type "BaseException") = some true)
    (xd_TooMany : PySem.W.hasDictIn K c_TooMany = true)
    (xa_TooMany : PySem.W.findIn K (.ref c_TooMany) "__class__" = some (some (.builtin "object.__class__")))
    (xm_TooMany : PySem.W.mroIn K c_TooMany (.type "object") = some true)
    (xq_TooMany : PySem.W.excIn K c_TooMany [.type "ValueError", .type "Exception", .type "BaseException", .type "object"] "ValueError.__new__" = true)
    (xk_TooMany : PySem.W.keepIn K (.ref c_TooMany) = true)
    (xt_TooMany : PySem.W.typeIn K (.ref c_TooMany) = some (.type "type"))
    {c_BadText : Addr} (xc_BadText : PySem.W.nsIn K mainGlobals "BadText" = some (some (.ref c_BadText)))
    (xg_BadText : PySem.W.findIn K (.ref c_BadText) "__getattribute__" = some (some (.builtin "BaseException.__getattribute__")))
    (xh_BadText : PySem.W.findIn K (.ref c_BadText) "__getattr__" = some none)
    (xs_BadText : PySem.W.subIn K (.ref c_BadText) (.type "BaseException") = some true)
    (xd_BadText : PySem.W.hasDictIn K c_BadText = true)
    (xa_BadText : PySem.W.findIn K (.ref c_BadText) "__class__" = some (some (.builtin "object.__class__")))
    (xm_BadText : PySem.W.mroIn K c_BadText (.type "object") = some true)
    (xq_BadText : PySem.W.excIn K c_BadText [.type "ValueError", .type "Exception", .type "BaseException", .type "object"] "ValueError.__new__" = true)
    (xk_BadText : PySem.W.keepIn K (.ref c_BadText) = true)
    (xt_BadText : PySem.W.typeIn K (.ref c_BadText) = some (.type "type"))
    (xn : PySem.W.specialIn K (.builtin "object.__class__") "__get__" = some (some (.builtin "getset_descriptor.__get__"))) (xt : PySem.W.takesIn K (.builtin "object.__class__") = some true)
    (xv_BadContract : PySem.W.subIn K (.ref c_BadContract) (.type "ValueError") = some true)
    (xs_BadContract_BookError : PySem.W.subIn K (.ref c_BadContract) (.ref c_BookError) = some true)
    (xs_BadContract_BadContract : PySem.W.subIn K (.ref c_BadContract) (.ref c_BadContract) = some true)
    (xs_BadContract_BadMarket : PySem.W.subIn K (.ref c_BadContract) (.ref c_BadMarket) = some false)
    (xs_BadContract_TooMany : PySem.W.subIn K (.ref c_BadContract) (.ref c_TooMany) = some false)
    (xs_BadContract_BadText : PySem.W.subIn K (.ref c_BadContract) (.ref c_BadText) = some false)
    (xv_BadMarket : PySem.W.subIn K (.ref c_BadMarket) (.type "ValueError") = some true)
    (xs_BadMarket_BookError : PySem.W.subIn K (.ref c_BadMarket) (.ref c_BookError) = some true)
    (xs_BadMarket_BadContract : PySem.W.subIn K (.ref c_BadMarket) (.ref c_BadContract) = some false)
    (xs_BadMarket_BadMarket : PySem.W.subIn K (.ref c_BadMarket) (.ref c_BadMarket) = some true)
    (xs_BadMarket_TooMany : PySem.W.subIn K (.ref c_BadMarket) (.ref c_TooMany) = some false)
    (xs_BadMarket_BadText : PySem.W.subIn K (.ref c_BadMarket) (.ref c_BadText) = some false)
    (xv_TooMany : PySem.W.subIn K (.ref c_TooMany) (.type "ValueError") = some true)
    (xs_TooMany_BookError : PySem.W.subIn K (.ref c_TooMany) (.ref c_BookError) = some true)
    (xs_TooMany_BadContract : PySem.W.subIn K (.ref c_TooMany) (.ref c_BadContract) = some false)
    (xs_TooMany_BadMarket : PySem.W.subIn K (.ref c_TooMany) (.ref c_BadMarket) = some false)
    (xs_TooMany_TooMany : PySem.W.subIn K (.ref c_TooMany) (.ref c_TooMany) = some true)
    (xs_TooMany_BadText : PySem.W.subIn K (.ref c_TooMany) (.ref c_BadText) = some false)
    (xv_BadText : PySem.W.subIn K (.ref c_BadText) (.type "ValueError") = some true)
    (xs_BadText_BookError : PySem.W.subIn K (.ref c_BadText) (.ref c_BookError) = some true)
    (xs_BadText_BadContract : PySem.W.subIn K (.ref c_BadText) (.ref c_BadContract) = some false)
    (xs_BadText_BadMarket : PySem.W.subIn K (.ref c_BadText) (.ref c_BadMarket) = some false)
    (xs_BadText_TooMany : PySem.W.subIn K (.ref c_BadText) (.ref c_TooMany) = some false)
    (xs_BadText_BadText : PySem.W.subIn K (.ref c_BadText) (.ref c_BadText) = some true)
    (xs_B : PySem.W.subIn K (.ref c_BookError) (.ref c_BookError) = some true)
    (z_ValueError : PySem.W.nsIn K mainGlobals "ValueError" = some none)
    (z_int : PySem.W.nsIn K mainGlobals "int" = some none)
    (z_range : PySem.W.nsIn K mainGlobals "range" = some none)
    (z_isinstance : PySem.W.nsIn K mainGlobals "isinstance" = some none)
    (z_str : PySem.W.nsIn K mainGlobals "str" = some none)
    (z_all : PySem.W.nsIn K mainGlobals "all" = some none)
    (z_len : PySem.W.nsIn K mainGlobals "len" = some none)
    (z_tuple : PySem.W.nsIn K mainGlobals "tuple" = some none)
    (z_bool : PySem.W.nsIn K mainGlobals "bool" = some none)
    : ∃ fd : FuncData, (∀ (s : Shared) (v : Value), BindsTo s fd ⟨[v], []⟩ [("_law_script", v)]) ∧ ∀ base : Heap, K.In base → base.Ns mainGlobals mg → FnOk l.prog w K mg base CX0 (230) fa fd ["_law_script"] (liftSp K (spLaw K)) := by
  have e := hfa.symm.trans (PySem.W.mg_of X G a_law)
  cases e
  have F_must := fun_mk (st := s_must) l_must c_must k_must
  have D_must : Df K mg "must" f_must _ ["good"] := ⟨F_must.binds (ps := ["good"]) fun _ _ _ _ _ _ us hl => match us, hl with | [_], _ => rfl, k_must, PySem.W.mg_of X G a_must⟩
  have F_is_word := fun_mk (st := s_is_word) l_is_word c_is_word k_is_word
  have D_is_word : Df K mg "is_word" f_is_word _ ["word"] := ⟨F_is_word.binds (ps := ["word"]) fun _ _ _ _ _ _ us hl => match us, hl with | [_], _ => rfl, k_is_word, PySem.W.mg_of X G a_is_word⟩
  have F_need_number := fun_mk (st := s_need_number) l_need_number c_need_number k_need_number
  have D_need_number : Df K mg "need_number" f_need_number _ ["number", "least", "most"] := ⟨F_need_number.binds (ps := ["number", "least", "most"]) fun _ _ _ _ _ _ us hl => match us, hl with | [_, _, _], _ => rfl, k_need_number, PySem.W.mg_of X G a_need_number⟩
  have F_need_tuple := fun_mk (st := s_need_tuple) l_need_tuple c_need_tuple k_need_tuple
  have D_need_tuple : Df K mg "need_tuple" f_need_tuple _ ["told", "deep"] := ⟨F_need_tuple.binds (ps := ["told", "deep"]) fun _ _ _ _ _ _ us hl => match us, hl with | [_, _], _ => rfl, k_need_tuple, PySem.W.mg_of X G a_need_tuple⟩
  have F_need_told := fun_mk (st := s_need_told) l_need_told c_need_told k_need_told
  have D_need_told : Df K mg "need_told" f_need_told _ ["told", "deep"] := ⟨F_need_told.binds (ps := ["told", "deep"]) fun _ _ _ _ _ _ us hl => match us, hl with | [_, _], _ => rfl, k_need_told, PySem.W.mg_of X G a_need_told⟩
  have F_need_asked := fun_mk (st := s_need_asked) l_need_asked c_need_asked k_need_asked
  have D_need_asked : Df K mg "need_asked" f_need_asked _ ["asked", "deep"] := ⟨F_need_asked.binds (ps := ["asked", "deep"]) fun _ _ _ _ _ _ us hl => match us, hl with | [_, _], _ => rfl, k_need_asked, PySem.W.mg_of X G a_need_asked⟩
  have F_need_sides := fun_mk (st := s_need_sides) l_need_sides c_need_sides k_need_sides
  have D_need_sides : Df K mg "need_sides" f_need_sides _ ["one", "other"] := ⟨F_need_sides.binds (ps := ["one", "other"]) fun _ _ _ _ _ _ us hl => match us, hl with | [_, _], _ => rfl, k_need_sides, PySem.W.mg_of X G a_need_sides⟩
  have F_look := fun_mk (st := s_look) l_look c_look k_look
  have D_look : Df K mg "look" f_look _ ["contract", "deep"] := ⟨F_look.binds (ps := ["contract", "deep"]) fun _ _ _ _ _ _ us hl => match us, hl with | [_, _], _ => rfl, k_look, PySem.W.mg_of X G a_look⟩
  have F_need_contract := fun_mk (st := s_need_contract) l_need_contract c_need_contract k_need_contract
  have D_need_contract : Df K mg "need_contract" f_need_contract _ ["contract"] := ⟨F_need_contract.binds (ps := ["contract"]) fun _ _ _ _ _ _ us hl => match us, hl with | [_], _ => rfl, k_need_contract, PySem.W.mg_of X G a_need_contract⟩
  have F_within := fun_mk (st := s_within) l_within c_within k_within
  have D_within : Df K mg "within" f_within _ ["contract"] := ⟨F_within.binds (ps := ["contract"]) fun _ _ _ _ _ _ us hl => match us, hl with | [_], _ => rfl, k_within, PySem.W.mg_of X G a_within⟩
  have F__law_begun := fun_mk (st := s__law_begun) l__law_begun c__law_begun k__law_begun
  have D__law_begun : Df K mg "_law_begun" f__law_begun _ ["_law_script"] := ⟨F__law_begun.binds (ps := ["_law_script"]) fun _ _ _ _ _ _ us hl => match us, hl with | [_], _ => rfl, k__law_begun, PySem.W.mg_of X G a__law_begun⟩
  have F__law_taken := fun_mk (st := s__law_taken) l__law_taken c__law_taken k__law_taken
  have D__law_taken : Df K mg "_law_taken" f__law_taken _ ["_law_s", "_law_most"] := ⟨F__law_taken.binds (ps := ["_law_s", "_law_most"]) fun _ _ _ _ _ _ us hl => match us, hl with | [_, _], _ => rfl, k__law_taken, PySem.W.mg_of X G a__law_taken⟩
  have F__law_word := fun_mk (st := s__law_word) l__law_word c__law_word k__law_word
  have D__law_word : Df K mg "_law_word" f__law_word _ ["_law_s", "_law_k"] := ⟨F__law_word.binds (ps := ["_law_s", "_law_k"]) fun _ _ _ _ _ _ us hl => match us, hl with | [_, _], _ => rfl, k__law_word, PySem.W.mg_of X G a__law_word⟩
  have F__law_number := fun_mk (st := s__law_number) l__law_number c__law_number k__law_number
  have D__law_number : Df K mg "_law_number" f__law_number _ ["_law_s"] := ⟨F__law_number.binds (ps := ["_law_s"]) fun _ _ _ _ _ _ us hl => match us, hl with | [_], _ => rfl, k__law_number, PySem.W.mg_of X G a__law_number⟩
  have F__law_told := fun_mk (st := s__law_told) l__law_told c__law_told k__law_told
  have D__law_told : Df K mg "_law_told" f__law_told _ ["_law_s", "_law_deep"] := ⟨F__law_told.binds (ps := ["_law_s", "_law_deep"]) fun _ _ _ _ _ _ us hl => match us, hl with | [_, _], _ => rfl, k__law_told, PySem.W.mg_of X G a__law_told⟩
  have F__law_asked := fun_mk (st := s__law_asked) l__law_asked c__law_asked k__law_asked
  have D__law_asked : Df K mg "_law_asked" f__law_asked _ ["_law_s", "_law_deep"] := ⟨F__law_asked.binds (ps := ["_law_s", "_law_deep"]) fun _ _ _ _ _ _ us hl => match us, hl with | [_, _], _ => rfl, k__law_asked, PySem.W.mg_of X G a__law_asked⟩
  have F__law_sides := fun_mk (st := s__law_sides) l__law_sides c__law_sides k__law_sides
  have D__law_sides : Df K mg "_law_sides" f__law_sides _ ["_law_s"] := ⟨F__law_sides.binds (ps := ["_law_s"]) fun _ _ _ _ _ _ us hl => match us, hl with | [_], _ => rfl, k__law_sides, PySem.W.mg_of X G a__law_sides⟩
  have F__law_good := fun_mk (st := s__law_good) l__law_good c__law_good k__law_good
  have D__law_good : Df K mg "_law_good" f__law_good _ ["_law_s"] := ⟨F__law_good.binds (ps := ["_law_s"]) fun _ _ _ _ _ _ us hl => match us, hl with | [_], _ => rfl, k__law_good, PySem.W.mg_of X G a__law_good⟩
  have F__law_give := fun_mk (st := s__law_give) l__law_give c__law_give k__law_give
  have D__law_give : Df K mg "_law_give" f__law_give _ ["_law_s"] := ⟨F__law_give.binds (ps := ["_law_s"]) fun _ _ _ _ _ _ us hl => match us, hl with | [_], _ => rfl, k__law_give, PySem.W.mg_of X G a__law_give⟩
  have F__law_contract := fun_mk (st := s__law_contract) l__law_contract c__law_contract k__law_contract
  have D__law_contract : Df K mg "_law_contract" f__law_contract _ ["_law_s", "_law_deep"] := ⟨F__law_contract.binds (ps := ["_law_s", "_law_deep"]) fun _ _ _ _ _ _ us hl => match us, hl with | [_, _], _ => rfl, k__law_contract, PySem.W.mg_of X G a__law_contract⟩
  have F__law_drawn := fun_mk (st := s__law_drawn) l__law_drawn c__law_drawn k__law_drawn
  have D__law_drawn : Df K mg "_law_drawn" f__law_drawn _ ["_law_s", "_law_many"] := ⟨F__law_drawn.binds (ps := ["_law_s", "_law_many"]) fun _ _ _ _ _ _ us hl => match us, hl with | [_, _], _ => rfl, k__law_drawn, PySem.W.mg_of X G a__law_drawn⟩
  have F__law_refused := fun_mk (st := s__law_refused) l__law_refused c__law_refused k__law_refused
  have D__law_refused : Df K mg "_law_refused" f__law_refused _ ["_law_contract_here"] := ⟨F__law_refused.binds (ps := ["_law_contract_here"]) fun _ _ _ _ _ _ us hl => match us, hl with | [_], _ => rfl, k__law_refused, PySem.W.mg_of X G a__law_refused⟩
  have F__law_bad := fun_mk (st := s__law_bad) l__law_bad c__law_bad k__law_bad
  have D__law_bad : Df K mg "_law_bad" f__law_bad _ ["_law_way"] := ⟨F__law_bad.binds (ps := ["_law_way"]) fun _ _ _ _ _ _ us hl => match us, hl with | [_], _ => rfl, k__law_bad, PySem.W.mg_of X G a__law_bad⟩
  have F__law_around := fun_mk (st := s__law_around) l__law_around c__law_around k__law_around
  have D__law_around : Df K mg "_law_around" f__law_around _ ["_law_s", "_law_contract_here"] := ⟨F__law_around.binds (ps := ["_law_s", "_law_contract_here"]) fun _ _ _ _ _ _ us hl => match us, hl with | [_, _], _ => rfl, k__law_around, PySem.W.mg_of X G a__law_around⟩
  have F_law := fun_mk (st := s_law) l_law c_law k_law
  have V : Gv K mg := { JOINS := gl_tupS (zs := ["plus", "minus", "times", "most", "least"]) (PySem.W.mg_of X G g_JOINS) w_JOINS rfl rfl (by show 5 ≤ sizeLine; decide) (.cons ⟨_, rfl⟩ (.cons ⟨_, rfl⟩ (.cons ⟨_, rfl⟩ (.cons ⟨_, rfl⟩ (.cons ⟨_, rfl⟩ (.nil)))))) (by decide), SMALL := ⟨.str "abcdefghijklmnopqrstuvwxyz", _, PySem.W.mg_of X G g_SMALL, ⟨_, rfl⟩, fun _ => Rep.str⟩, NONE := gl_tupS (zs := ["none"]) (PySem.W.mg_of X G g_NONE) w_NONE rfl rfl (by show 1 ≤ sizeLine; decide) (.cons ⟨_, rfl⟩ (.nil)) (by decide), MOST_DEEP := ⟨.int 12, _, PySem.W.mg_of X G g_MOST_DEEP, ⟨_, rfl⟩, fun _ => Rep.int⟩, MOST_HOURS := ⟨.int 99, _, PySem.W.mg_of X G g_MOST_HOURS, ⟨_, rfl⟩, fun _ => Rep.int⟩, MOST_OFTEN := ⟨.int 9, _, PySem.W.mg_of X G g_MOST_OFTEN, ⟨_, rfl⟩, fun _ => Rep.int⟩, GREATEST := ⟨.int 1000000000000, _, PySem.W.mg_of X G g_GREATEST, ⟨_, rfl⟩, fun _ => Rep.int⟩ }
  have XX : XcF K mg "BookError" c_BookError ∧ XcF K mg "BadContract" c_BadContract ∧ XcF K mg "BadMarket" c_BadMarket ∧ XcF K mg "TooMany" c_TooMany ∧ XcF K mg "BadText" c_BadText := ⟨⟨PySem.W.mg_of X G xc_BookError, xq_BookError, xk_BookError, xt_BookError, ⟨xg_BookError, xh_BookError, xs_BookError, xd_BookError, xa_BookError, xn, xt, xm_BookError⟩⟩, ⟨PySem.W.mg_of X G xc_BadContract, xq_BadContract, xk_BadContract, xt_BadContract, ⟨xg_BadContract, xh_BadContract, xs_BadContract, xd_BadContract, xa_BadContract, xn, xt, xm_BadContract⟩⟩, ⟨PySem.W.mg_of X G xc_BadMarket, xq_BadMarket, xk_BadMarket, xt_BadMarket, ⟨xg_BadMarket, xh_BadMarket, xs_BadMarket, xd_BadMarket, xa_BadMarket, xn, xt, xm_BadMarket⟩⟩, ⟨PySem.W.mg_of X G xc_TooMany, xq_TooMany, xk_TooMany, xt_TooMany, ⟨xg_TooMany, xh_TooMany, xs_TooMany, xd_TooMany, xa_TooMany, xn, xt, xm_TooMany⟩⟩, ⟨PySem.W.mg_of X G xc_BadText, xq_BadText, xk_BadText, xt_BadText, ⟨xg_BadText, xh_BadText, xs_BadText, xd_BadText, xa_BadText, xn, xt, xm_BadText⟩⟩⟩
  obtain ⟨X_BookError, X_BadContract, X_BadMarket, X_TooMany, X_BadText⟩ := XX
  have XE : Xcs K mg c_BookError c_BadContract c_BadMarket c_TooMany c_BadText := { X_BookError := X_BookError, X_BadContract := X_BadContract, X_BadMarket := X_BadMarket, X_TooMany := X_TooMany, X_BadText := X_BadText, e_BadContract := X_BookError.exm xs_BadContract_BookError, v_BadContract := kit_val xv_BadContract, k_BadContract_BookError := X_BookError.kit xs_BadContract_BookError xs_B, k_BadContract_BadContract := X_BadContract.kit xs_BadContract_BadContract xs_BadContract_BadContract, k_BadContract_BadMarket := X_BadMarket.kit xs_BadContract_BadMarket xs_BadMarket_BadMarket, k_BadContract_TooMany := X_TooMany.kit xs_BadContract_TooMany xs_TooMany_TooMany, k_BadContract_BadText := X_BadText.kit xs_BadContract_BadText xs_BadText_BadText, e_BadMarket := X_BookError.exm xs_BadMarket_BookError, v_BadMarket := kit_val xv_BadMarket, k_BadMarket_BookError := X_BookError.kit xs_BadMarket_BookError xs_B, k_BadMarket_BadContract := X_BadContract.kit xs_BadMarket_BadContract xs_BadContract_BadContract, k_BadMarket_BadMarket := X_BadMarket.kit xs_BadMarket_BadMarket xs_BadMarket_BadMarket, k_BadMarket_TooMany := X_TooMany.kit xs_BadMarket_TooMany xs_TooMany_TooMany, k_BadMarket_BadText := X_BadText.kit xs_BadMarket_BadText xs_BadText_BadText, e_TooMany := X_BookError.exm xs_TooMany_BookError, v_TooMany := kit_val xv_TooMany, k_TooMany_BookError := X_BookError.kit xs_TooMany_BookError xs_B, k_TooMany_BadContract := X_BadContract.kit xs_TooMany_BadContract xs_BadContract_BadContract, k_TooMany_BadMarket := X_BadMarket.kit xs_TooMany_BadMarket xs_BadMarket_BadMarket, k_TooMany_TooMany := X_TooMany.kit xs_TooMany_TooMany xs_TooMany_TooMany, k_TooMany_BadText := X_BadText.kit xs_TooMany_BadText xs_BadText_BadText, e_BadText := X_BookError.exm xs_BadText_BookError, v_BadText := kit_val xv_BadText, k_BadText_BookError := X_BookError.kit xs_BadText_BookError xs_B, k_BadText_BadContract := X_BadContract.kit xs_BadText_BadContract xs_BadContract_BadContract, k_BadText_BadMarket := X_BadMarket.kit xs_BadText_BadMarket xs_BadMarket_BadMarket, k_BadText_TooMany := X_TooMany.kit xs_BadText_TooMany xs_TooMany_TooMany, k_BadText_BadText := X_BadText.kit xs_BadText_BadText xs_BadText_BadText }
  have Z : Bl mg := ⟨PySem.W.mg_none_of X G z_ValueError, PySem.W.mg_none_of X G z_int, PySem.W.mg_none_of X G z_range, PySem.W.mg_none_of X G z_isinstance, PySem.W.mg_none_of X G z_str, PySem.W.mg_none_of X G z_all, PySem.W.mg_none_of X G z_len, PySem.W.mg_none_of X G z_tuple, PySem.W.mg_none_of X G z_bool⟩
  refine ⟨PySem.W.fnOf "law" "law" (defArgs s_law) (defBody s_law) (defScope s_law) .none kV_law dc_law pm_law an_law cd_law ct_law, fun s v => .of_eq rfl, fun base _ _ => ?_⟩
  have G__law_taken := ok_law_taken (P := l.prog) (w := w) (base := base) Z (k := 10) F__law_taken
  have G__law_number := ok_law_number (P := l.prog) (w := w) (base := base) D__law_taken G__law_taken F__law_number
  have G__law_told := fin_law_told Z D__law_taken (G__law_taken.mono (show 11 ≤ 12 by omega)) D__law_number G__law_number D__law_told F__law_told
  have G__law_begun := ok_law_begun Z D__law_taken G__law_taken F__law_begun
  have G__law_word := ok_law_word (P := l.prog) (w := w) (base := base) Z (k := 10) F__law_word
  have G__law_sides := ok_law_sides Z D__law_taken G__law_taken D__law_word G__law_word F__law_sides
  have G__law_good := ok_law_good Z D__law_taken G__law_taken D__law_word G__law_word F__law_good
  have G__law_give := ok_law_give Z D__law_sides (G__law_sides.mono (show 12 ≤ 20 by omega)) D__law_good (G__law_good.mono (show 12 ≤ 20 by omega)) D__law_told ((G__law_told 3).mono (show 12 + 3 ≤ 20 by omega)) F__law_give
  have G__law_asked := fin_law_asked Z D__law_taken (G__law_taken.mono (show 11 ≤ 20 by omega)) D__law_told ((G__law_told 2).mono (show 12 + 2 ≤ 20 by omega)) D__law_asked F__law_asked
  have G__law_contract := fin_law_contract Z D__law_taken (G__law_taken.mono (show 11 ≤ 30 by omega)) D__law_give (G__law_give.mono (show 21 ≤ 30 by omega)) D__law_sides (G__law_sides.mono (show 12 ≤ 30 by omega)) D__law_asked ((G__law_asked 3).mono (show 20 + 3 ≤ 30 by omega)) D__law_contract F__law_contract
  have G__law_drawn := ok_law_drawn Z D__law_taken (G__law_taken.mono (show 11 ≤ 40 by omega)) D__law_word (G__law_word.mono (show 11 ≤ 40 by omega)) D__law_sides (G__law_sides.mono (show 12 ≤ 40 by omega)) D__law_good (G__law_good.mono (show 12 ≤ 40 by omega)) D__law_told ((G__law_told 2).mono (show 12 + 2 ≤ 40 by omega)) D__law_asked ((G__law_asked 1).mono (show 20 + 1 ≤ 40 by omega)) D__law_contract ((G__law_contract 4).mono (show 30 + 4 ≤ 40 by omega)) F__law_drawn
  have G_within := gok_within (mg := mg) (P := l.prog) (w := w) (base := base) (k := 10) F_within
  have G_must := gok_must (P := l.prog) (w := w) (base := base) (k := 10) XE F_must
  have G_is_word := gok_is_word (P := l.prog) (w := w) (base := base) (k := 10) V Z F_is_word
  have G_need_number := gok_need_number Z D_must G_must F_need_number
  have G_need_tuple := gok_need_tuple V Z D_must G_must F_need_tuple
  have G_need_told := gfin_need_told (c := 20) V Z D_must (G_must.mono (by omega)) D_need_tuple (G_need_tuple.mono (by omega)) D_need_number (G_need_number.mono (by omega)) D_is_word (G_is_word.mono (by omega)) D_need_told F_need_told
  have G_need_asked := gfin_need_asked (c := 20) V Z D_must (G_must.mono (by omega)) D_need_tuple (G_need_tuple.mono (by omega)) D_need_told G_need_told D_need_asked F_need_asked
  have G_need_sides := gok_need_sides D_must G_must D_is_word G_is_word F_need_sides
  have G_look := gfin_look (c := 20) V Z D_must (G_must.mono (by omega)) D_need_tuple (G_need_tuple.mono (by omega)) D_need_number (G_need_number.mono (by omega)) D_is_word (G_is_word.mono (by omega)) D_need_sides (G_need_sides.mono (by omega)) D_need_told G_need_told D_need_asked G_need_asked D_within (G_within.mono (by omega)) D_look F_look
  have G_need_contract := gok_need_contract D_look (G_look 13) F_need_contract
  have G__law_refused := ok_law_refused Z XE D_need_contract G_need_contract F__law_refused
  have G__law_bad := ok_law_bad (mg := mg) (P := l.prog) (w := w) (base := base) (k := 10) F__law_bad
  have G__law_around := ok_law_around Z D__law_taken G__law_taken F__law_around
  exact ok_law (k := 229) Z D__law_begun (G__law_begun.mono (by omega)) D__law_taken (G__law_taken.mono (by omega)) D__law_drawn (G__law_drawn.mono (by omega)) D__law_refused (G__law_refused.mono (by omega)) D__law_bad (G__law_bad.mono (by omega)) D__law_around (G__law_around.mono (by omega)) D_need_contract (G_need_contract.mono (by omega)) F_law
theorem walk {l : PySem.W.OpenLaw} {q : Program} {loose : List Str} {XP : (Str → Option Value) → Heap → Prop} {YP : World → Heap → Prop} {d : DefRec} {K : Params → PySem.W.Frag} (hn : l.most = some 63) (hdf : d.params.defaults = [])
    (hY : ∀ (w : World) (h : Heap), YP w h → (K w.params).In h)
    (F : ∀ (w : World) (mg : Str → Option Value) (fa : Addr) (h : Heap), (K w.params).In h → h.Ns mainGlobals mg → mg d.name = some (.ref fa) →
      ∃ fd : FuncData, (∀ (s : Shared) (u : Value), BindsTo s fd ⟨[u], []⟩ [("_law_script", u)]) ∧ ∀ base : Heap, (K w.params).In base → base.Ns mainGlobals mg → FnOk l.prog w (K w.params) mg base CX0 (230) fa fd ["_law_script"] (liftSp (K w.params) (spLaw (K w.params)))) :
    PySem.W.WalkO q loose XP YP l.row.toRowW d [] (fun f vs => PySem.call f vs) :=
  L2.walk_of (n := 63) (k := 230) (x := "_law_script") (CX := fun _ => CX0) (sp := fun w => liftSp (K w.params) (spLaw (K w.params))) hn (by decide) hdf ⟨rfl, by decide, by decide⟩ hY F (fun _ _ a ns hl _ hS => spLaw_start hl hS) fun _ _ _ _ _ z => z
end Mm
open PySem PySem.W PyProof.Rows
set_option maxRecDepth 100000 in
set_option maxHeartbeats 0 in
theorem PySem.Challenge.cw_contractbook_k03_contracts_refused_holds : PySem.Challenge.rw_contractbook_k03_contracts_refused.Holds := by
  w_on; o_law; k_head; (case hw => w_witness2)
  k_fill
  refine Mm.walk (l := PySem.Challenge.rw_contractbook_k03_contracts_refused) rfl rfl (fun w h Y => PySem.W.kIn_of Y) ?F
  case F =>
    intro w mg fa h KX G hmg
    refine' Mm.all_mk KX G hmg ?a_must ?l_must ?c_must ?k_must ?a_is_word ?l_is_word ?c_is_word ?k_is_word ?a_need_number ?l_need_number ?c_need_number ?k_need_number ?a_need_tuple ?l_need_tuple ?c_need_tuple ?k_need_tuple ?a_need_told ?l_need_told ?c_need_told ?k_need_told ?a_need_asked ?l_need_asked ?c_need_asked ?k_need_asked ?a_need_sides ?l_need_sides ?c_need_sides ?k_need_sides ?a_look ?l_look ?c_look ?k_look ?a_need_contract ?l_need_contract ?c_need_contract ?k_need_contract ?a_within ?l_within ?c_within ?k_within ?a__law_begun ?l__law_begun ?c__law_begun ?k__law_begun ?a__law_taken ?l__law_taken ?c__law_taken ?k__law_taken ?a__law_word ?l__law_word ?c__law_word ?k__law_word ?a__law_number ?l__law_number ?c__law_number ?k__law_number ?a__law_told ?l__law_told ?c__law_told ?k__law_told ?a__law_asked ?l__law_asked ?c__law_asked ?k__law_asked ?a__law_sides ?l__law_sides ?c__law_sides ?k__law_sides ?a__law_good ?l__law_good ?c__law_good ?k__law_good ?a__law_give ?l__law_give ?c__law_give ?k__law_give ?a__law_contract ?l__law_contract ?c__law_contract ?k__law_contract ?a__law_drawn ?l__law_drawn ?c__law_drawn ?k__law_drawn ?a__law_refused ?l__law_refused ?c__law_refused ?k__law_refused ?a__law_bad ?l__law_bad ?c__law_bad ?k__law_bad ?a__law_around ?l__law_around ?c__law_around ?k__law_around ?a_law ?l_law ?c_law ?k_law ?g_JOINS ?w_JOINS ?g_SMALL ?g_NONE ?w_NONE ?g_MOST_DEEP ?g_MOST_HOURS ?g_MOST_OFTEN ?g_GREATEST ?xc_BookError ?xg_BookError ?xh_BookError ?xs_BookError ?xd_BookError ?xa_BookError ?xm_BookError ?xq_BookError ?xk_BookError ?xt_BookError ?xc_BadContract ?xg_BadContract ?xh_BadContract ?xs_BadContract ?xd_BadContract ?xa_BadContract ?xm_BadContract ?xq_BadContract ?xk_BadContract ?xt_BadContract ?xc_BadMarket ?xg_BadMarket ?xh_BadMarket ?xs_BadMarket ?xd_BadMarket ?xa_BadMarket ?xm_BadMarket ?xq_BadMarket ?xk_BadMarket ?xt_BadMarket ?xc_TooMany ?xg_TooMany ?xh_TooMany ?xs_TooMany ?xd_TooMany ?xa_TooMany ?xm_TooMany ?xq_TooMany ?xk_TooMany ?xt_TooMany ?xc_BadText ?xg_BadText ?xh_BadText ?xs_BadText ?xd_BadText ?xa_BadText ?xm_BadText ?xq_BadText ?xk_BadText ?xt_BadText ?xn ?xt ?xv_BadContract ?xs_BadContract_BookError ?xs_BadContract_BadContract ?xs_BadContract_BadMarket ?xs_BadContract_TooMany ?xs_BadContract_BadText ?xv_BadMarket ?xs_BadMarket_BookError ?xs_BadMarket_BadContract ?xs_BadMarket_BadMarket ?xs_BadMarket_TooMany ?xs_BadMarket_BadText ?xv_TooMany ?xs_TooMany_BookError ?xs_TooMany_BadContract ?xs_TooMany_BadMarket ?xs_TooMany_TooMany ?xs_TooMany_BadText ?xv_BadText ?xs_BadText_BookError ?xs_BadText_BadContract ?xs_BadText_BadMarket ?xs_BadText_TooMany ?xs_BadText_BadText ?xs_B ?z_ValueError ?z_int ?z_range ?z_isinstance ?z_str ?z_all ?z_len ?z_tuple ?z_bool
    (case a_must => k_is)
    (case l_must => k_is)
    (case c_must => k_is)
    (case k_must => k_is)
    (case a_is_word => k_is)
    (case l_is_word => k_is)
    (case c_is_word => k_is)
    (case k_is_word => k_is)
    (case a_need_number => k_is)
    (case l_need_number => k_is)
    (case c_need_number => k_is)
    (case k_need_number => k_is)
    (case a_need_tuple => k_is)
    (case l_need_tuple => k_is)
    (case c_need_tuple => k_is)
    (case k_need_tuple => k_is)
    (case a_need_told => k_is)
    (case l_need_told => k_is)
    (case c_need_told => k_is)
    (case k_need_told => k_is)
    (case a_need_asked => k_is)
    (case l_need_asked => k_is)
    (case c_need_asked => k_is)
    (case k_need_asked => k_is)
    (case a_need_sides => k_is)
    (case l_need_sides => k_is)
    (case c_need_sides => k_is)
    (case k_need_sides => k_is)
    (case a_look => k_is)
    (case l_look => k_is)
    (case c_look => k_is)
    (case k_look => k_is)
    (case a_need_contract => k_is)
    (case l_need_contract => k_is)
    (case c_need_contract => k_is)
    (case k_need_contract => k_is)
    (case a_within => k_is)
    (case l_within => k_is)
    (case c_within => k_is)
    (case k_within => k_is)
    (case a__law_begun => k_is)
    (case l__law_begun => k_is)
    (case c__law_begun => k_is)
    (case k__law_begun => k_is)
    (case a__law_taken => k_is)
    (case l__law_taken => k_is)
    (case c__law_taken => k_is)
    (case k__law_taken => k_is)
    (case a__law_word => k_is)
    (case l__law_word => k_is)
    (case c__law_word => k_is)
    (case k__law_word => k_is)
    (case a__law_number => k_is)
    (case l__law_number => k_is)
    (case c__law_number => k_is)
    (case k__law_number => k_is)
    (case a__law_told => k_is)
    (case l__law_told => k_is)
    (case c__law_told => k_is)
    (case k__law_told => k_is)
    (case a__law_asked => k_is)
    (case l__law_asked => k_is)
    (case c__law_asked => k_is)
    (case k__law_asked => k_is)
    (case a__law_sides => k_is)
    (case l__law_sides => k_is)
    (case c__law_sides => k_is)
    (case k__law_sides => k_is)
    (case a__law_good => k_is)
    (case l__law_good => k_is)
    (case c__law_good => k_is)
    (case k__law_good => k_is)
    (case a__law_give => k_is)
    (case l__law_give => k_is)
    (case c__law_give => k_is)
    (case k__law_give => k_is)
    (case a__law_contract => k_is)
    (case l__law_contract => k_is)
    (case c__law_contract => k_is)
    (case k__law_contract => k_is)
    (case a__law_drawn => k_is)
    (case l__law_drawn => k_is)
    (case c__law_drawn => k_is)
    (case k__law_drawn => k_is)
    (case a__law_refused => k_is)
    (case l__law_refused => k_is)
    (case c__law_refused => k_is)
    (case k__law_refused => k_is)
    (case a__law_bad => k_is)
    (case l__law_bad => k_is)
    (case c__law_bad => k_is)
    (case k__law_bad => k_is)
    (case a__law_around => k_is)
    (case l__law_around => k_is)
    (case c__law_around => k_is)
    (case k__law_around => k_is)
    (case a_law => k_is)
    (case l_law => k_is)
    (case c_law => k_is)
    (case k_law => k_is)
    (case g_JOINS => k_is)
    (case w_JOINS => k_is)
    (case g_SMALL => k_is)
    (case g_NONE => k_is)
    (case w_NONE => k_is)
    (case g_MOST_DEEP => k_is)
    (case g_MOST_HOURS => k_is)
    (case g_MOST_OFTEN => k_is)
    (case g_GREATEST => k_is)
    (case xc_BookError => k_is)
    (case xg_BookError => k_is)
    (case xh_BookError => k_is)
    (case xs_BookError => k_is)
    (case xd_BookError => k_is)
    (case xa_BookError => k_is)
    (case xm_BookError => k_is)
    (case xq_BookError => k_exc)
    (case xk_BookError => k_is)
    (case xt_BookError => k_is)
    (case xc_BadContract => k_is)
    (case xg_BadContract => k_is)
    (case xh_BadContract => k_is)
    (case xs_BadContract => k_is)
    (case xd_BadContract => k_is)
    (case xa_BadContract => k_is)
    (case xm_BadContract => k_is)
    (case xq_BadContract => k_exc)
    (case xk_BadContract => k_is)
    (case xt_BadContract => k_is)
    (case xc_BadMarket => k_is)
    (case xg_BadMarket => k_is)
    (case xh_BadMarket => k_is)
    (case xs_BadMarket => k_is)
    (case xd_BadMarket => k_is)
    (case xa_BadMarket => k_is)
    (case xm_BadMarket => k_is)
    (case xq_BadMarket => k_exc)
    (case xk_BadMarket => k_is)
    (case xt_BadMarket => k_is)
    (case xc_TooMany => k_is)
    (case xg_TooMany => k_is)
    (case xh_TooMany => k_is)
    (case xs_TooMany => k_is)
    (case xd_TooMany => k_is)
    (case xa_TooMany => k_is)
    (case xm_TooMany => k_is)
    (case xq_TooMany => k_exc)
    (case xk_TooMany => k_is)
    (case xt_TooMany => k_is)
    (case xc_BadText => k_is)
    (case xg_BadText => k_is)
    (case xh_BadText => k_is)
    (case xs_BadText => k_is)
    (case xd_BadText => k_is)
    (case xa_BadText => k_is)
    (case xm_BadText => k_is)
    (case xq_BadText => k_exc)
    (case xk_BadText => k_is)
    (case xt_BadText => k_is)
    (case xn => k_is)
    (case xt => k_is)
    (case xv_BadContract => k_is)
    (case xs_BadContract_BookError => first | rfl | k_is)
    (case xs_BadContract_BadContract => first | rfl | k_is)
    (case xs_BadContract_BadMarket => first | rfl | k_is)
    (case xs_BadContract_TooMany => first | rfl | k_is)
    (case xs_BadContract_BadText => first | rfl | k_is)
    (case xv_BadMarket => k_is)
    (case xs_BadMarket_BookError => first | rfl | k_is)
    (case xs_BadMarket_BadContract => first | rfl | k_is)
    (case xs_BadMarket_BadMarket => first | rfl | k_is)
    (case xs_BadMarket_TooMany => first | rfl | k_is)
    (case xs_BadMarket_BadText => first | rfl | k_is)
    (case xv_TooMany => k_is)
    (case xs_TooMany_BookError => first | rfl | k_is)
    (case xs_TooMany_BadContract => first | rfl | k_is)
    (case xs_TooMany_BadMarket => first | rfl | k_is)
    (case xs_TooMany_TooMany => first | rfl | k_is)
    (case xs_TooMany_BadText => first | rfl | k_is)
    (case xv_BadText => k_is)
    (case xs_BadText_BookError => first | rfl | k_is)
    (case xs_BadText_BadContract => first | rfl | k_is)
    (case xs_BadText_BadMarket => first | rfl | k_is)
    (case xs_BadText_TooMany => first | rfl | k_is)
    (case xs_BadText_BadText => first | rfl | k_is)
    (case xs_B => first | rfl | k_is)
    (case z_ValueError => k_is)
    (case z_int => k_is)
    (case z_range => k_is)
    (case z_isinstance => k_is)
    (case z_str => k_is)
    (case z_all => k_is)
    (case z_len => k_is)
    (case z_tuple => k_is)
    (case z_bool => k_is)
#print axioms PySem.Challenge.cw_contractbook_k03_contracts_refused_holds
