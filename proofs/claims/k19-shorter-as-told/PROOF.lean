import PyProof.Rows.All
import Wide.All
import OpenK.AllK
import Wide.FinOn
import HandS.ForMost
import HandS.Wide
import HandS.IsInst
import HandS.TupAny
import HandS.DictComp
import HandS.Conv
import HandS.Deep
import HandS.FStr
import PyProof.StrBlock2
import HandS.More
import HandS.Text
import HandS.RaiseMore
import PyProof.FitsReplace
import KE.KSortTup
import HandS.Sort
import HandS.SortOrd
import HandS.SortRule
import HandS.Style
import HandS.DeepEq
import HandS.Flow
import HandS.ListEq
import PyProof.NeKinds
import HandS.Set
import HandS.SetFor
import HandS.SetTxt0
import HandS.Strs
import HandS.TupMul
import PySem.Challenge.RW_contractbook_k19_shorter_as_told
set_option Elab.async false
set_option linter.all false
set_option maxRecDepth 100000
set_option maxHeartbeats 0
/-! The layer of pure data over the hand layer: tuples are values, the memory holds lists, dicts, objects. -/
namespace Mm
open PySem L2

/-- a datum: a tuple is a value -/
inductive D where
  | non | bl (b : Bool) | int (i : Int) | str (x : Str) | tup (ds : List D) | ref (a : Addr) | ty (n : String)

/-- a tuple's place: tracked; a written one of one or five items -/
def TupAt (K : PySem.W.Frag) (H : Hp) (a : Addr) (xs : List V) (n : Nat) : Prop := H a = some (.tup xs) ∨ ((n = 1 ∨ n = 5) ∧ SqT K H a xs)
mutual
def Rep (K : PySem.W.Frag) (H : Hp) : D → V → Prop
  | .non, v => v = .non
  | .bl b, v => v = .bl b
  | .int i, v => v = .int i
  | .str x, v => v = .str x
  | .tup ds, v => ∃ a xs, v = .ref a ∧ TupAt K H a xs ds.length ∧ Reps K H ds xs
  | .ref a, v => v = .ref a
  | .ty n, v => v = .ty n
def Reps (K : PySem.W.Frag) (H : Hp) : List D → List V → Prop
  | [], xs => xs = []
  | d :: ds, xs => ∃ x r, xs = x :: r ∧ Rep K H d x ∧ Reps K H ds r
end

/-- what stands at an address of the memory; frz: locked -/
inductive O where
  | lst (ds : List D) | dK (kvs : List (Key × D)) | dT (kvs : List (List Key × D)) | ins (C : Addr) (fs : List (Str × D)) | frz (o : O)
abbrev Mem := Addr → Option O
def mput (m : Mem) (a : Addr) (o : O) : Mem := fun b => if b = a then some o else m b
theorem mput_same {m : Mem} {a : Addr} {o : O} : mput m a o a = some o := by unfold mput; rw [if_pos rfl]
theorem mput_ne {m : Mem} {a b : Addr} {o : O} (h : b ≠ a) : mput m a o b = m b := by unfold mput; rw [if_neg h]
theorem mput_mput {m : Mem} {a : Addr} {o u : O} : mput (mput m a o) a u = mput m a u := by funext b; unfold mput; split <;> rfl
theorem mput_self {m : Mem} {a : Addr} {o : O} (h : m a = some o) : mput m a o = m := by
  funext b; unfold mput; split
  · rename_i e; rw [e, h]
  · rfl
theorem mput_comm {m : Mem} {a b : Addr} {o u : O} (h : a ≠ b) : mput (mput m a o) b u = mput (mput m b u) a o := by
  funext c; unfold mput; split <;> split <;> try rfl
  rename_i e1 e2; exact absurd (e2.symm.trans e1) h
theorem mput_new {m : Mem} {p a : Addr} {o u : O} (hp : m p = none) (h : m a = some u) : mput m p o a = some u := by
  rw [mput_ne]; exact h
  rintro rfl; rw [hp] at h; cases h
theorem ne_new {m : Mem} {p a : Addr} {u : O} (hp : m p = none) (h : m a = some u) : a ≠ p := by rintro rfl; rw [hp] at h; cases h

def KVs (K : PySem.W.Frag) (H : Hp) {κ : Type} : List (κ × D) → List (κ × V) → Prop := Paired fun p q => p.1 = q.1 ∧ Rep K H p.2 q.2
def RepO (K : PySem.W.Frag) (H : Hp) : O → HO → Prop
  | .lst ds, u => ∃ xs, u = .lst xs ∧ Reps K H ds xs
  | .dK kvs, u => ∃ xs, u = .dK xs ∧ KVs K H kvs xs
  | .dT kvs, u => ∃ xs, u = .dT xs ∧ KVs K H kvs xs
  | .ins C fs, u => ∃ dx xs, u = .ins C dx xs ∧ KVs K H fs xs
  | .frz o, u => ∃ ob v, u = .frz ob v ∧ RepO K H o v
def RM (K : PySem.W.Frag) (H : Hp) (m : Mem) : Prop := ∀ a o, m a = some o → ∃ u, H a = some u ∧ RepO K H o u
/-- no object that may be written stands there -/
def Nm (m : Mem) (a : Addr) : Prop := m a = none ∨ ∃ o, m a = some (.frz o)
/-- from (m, H) to (m', H') all that is no object of m's stays -/
def Step (m : Mem) (H : Hp) (m' : Mem) (H' : Hp) : Prop := ∀ a u, H a = some u → Nm m a → H' a = some u ∧ Nm m' a
def Sub (m m' : Mem) : Prop := ∀ a o, m a = some o → m' a = some o

section
variable {K : PySem.W.Frag} {H H' H1 : Hp} {m m' m1 : Mem}
theorem Step.refl : Step m H m H := fun _ _ h n => ⟨h, n⟩
theorem Step.trans (a : Step m H m1 H1) (b : Step m1 H1 m' H') : Step m H m' H' := fun x u h n => by
  obtain ⟨h1, n1⟩ := a x u h n
  exact b x u h1 n1
theorem Sub.refl : Sub m m := fun _ _ h => h
theorem Sub.trans (a : Sub m m1) (b : Sub m1 m') : Sub m m' := fun x o h => b x o (a x o h)
theorem Sub.nm (s : Sub m m') {a : Addr} (n : Nm m' a) : Nm m a := by
  cases e : m a with
  | none => exact .inl e
  | some o =>
    rcases n with n | ⟨o', n⟩
    · rw [s a o e] at n; cases n
    · rw [s a o e] at n; cases n; exact .inr ⟨_, e⟩
theorem RM.sub (r : RM K H m') (s : Sub m m') : RM K H m := fun a o h => r a o (s a o h)
theorem Step.sub (a : Step m H m' H') (s : Sub m1 m') : Step m H m1 H' := fun x u h n => by
  obtain ⟨h1, n1⟩ := a x u h n
  exact ⟨h1, s.nm n1⟩
theorem RM.out (r : RM K H m) {p : Addr} (h : H p = none) : m p = none := by
  cases e : m p with
  | none => rfl
  | some o => obtain ⟨u, h1, _⟩ := r p o e; rw [h] at h1; cases h1
theorem RM.nm_tup (r : RM K H m) {a : Addr} {xs : List V} (h : H a = some (.tup xs)) : Nm m a := by
  cases e : m a with
  | none => exact .inl e
  | some o =>
    obtain ⟨u, h1, h2⟩ := r a o e
    rw [h] at h1; cases h1
    cases o with
    | lst ds => obtain ⟨xs, z, _⟩ := h2; cases z
    | dK ds => obtain ⟨xs, z, _⟩ := h2; cases z
    | dT ds => obtain ⟨xs, z, _⟩ := h2; cases z
    | ins C ds => obtain ⟨dx, xs, z, _⟩ := h2; cases z
    | frz o => exact .inr ⟨_, e⟩
theorem RM.nm_frz (r : RM K H m) {a : Addr} {ob : Obj} {v : HO} (h : H a = some (.frz ob v)) : Nm m a := by
  cases e : m a with
  | none => exact .inl e
  | some o =>
    obtain ⟨u, h1, h2⟩ := r a o e
    rw [h] at h1; cases h1
    cases o with
    | lst ds => obtain ⟨xs, z, _⟩ := h2; cases z
    | dK ds => obtain ⟨xs, z, _⟩ := h2; cases z
    | dT ds => obtain ⟨xs, z, _⟩ := h2; cases z
    | ins C ds => obtain ⟨dx, xs, z, _⟩ := h2; cases z
    | frz o => exact .inr ⟨_, e⟩
/-- tuples stay -/
def TupS (K : PySem.W.Frag) (H H' : Hp) : Prop := ∀ a xs n, TupAt K H a xs n → TupAt K H' a xs n
theorem TupAt.sq {a : Addr} {xs : List V} {n : Nat} (h : TupAt K H a xs n) : SqT K H a xs := h.elim (fun z => .inl (.inl z)) fun z => z.2
theorem TupAt.of {a : Addr} {xs : List V} {n : Nat} (h : H a = some (.tup xs)) : TupAt K H a xs n := .inl h
theorem Step.tups (r : RM K H m) (s : Step m H m' H') : TupS K H H' := fun a xs n h => by
  rcases h with h | ⟨z, h⟩
  · exact .inl (s a _ h (r.nm_tup h)).1
  refine .inr ⟨z, ?_⟩
  rcases h with (h | ⟨ob, h⟩) | h
  · exact .inl (.inl (s a _ h (r.nm_tup h)).1)
  · exact .inl (.inr ⟨ob, (s a _ h (r.nm_frz h)).1⟩)
  · exact .inr h
mutual
theorem Rep.stay (t : TupS K H H') : ∀ {d : D} {v : V}, Rep K H d v → Rep K H' d v
  | .non, _, h => by unfold Rep at h ⊢; exact h
  | .bl _, _, h => by unfold Rep at h ⊢; exact h
  | .int _, _, h => by unfold Rep at h ⊢; exact h
  | .str _, _, h => by unfold Rep at h ⊢; exact h
  | .ref _, _, h => by unfold Rep at h ⊢; exact h
  | .ty _, _, h => by unfold Rep at h ⊢; exact h
  | .tup ds, _, h => by
    unfold Rep at h ⊢
    obtain ⟨a, xs, e, s, r⟩ := h
    exact ⟨a, xs, e, t a xs _ s, Reps.stay t r⟩
theorem Reps.stay (t : TupS K H H') : ∀ {ds : List D} {vs : List V}, Reps K H ds vs → Reps K H' ds vs
  | [], _, h => by unfold Reps at h ⊢; exact h
  | d :: ds, _, h => by
    unfold Reps at h ⊢
    obtain ⟨x, r, e, h1, h2⟩ := h
    exact ⟨x, r, e, Rep.stay t h1, Reps.stay t h2⟩
end
theorem KVs.stay (t : TupS K H H') {κ : Type} : ∀ {a : List (κ × D)} {b : List (κ × V)}, KVs K H a b → KVs K H' a b
  | _, _, .nil => .nil
  | _, _, .cons h r => .cons ⟨h.1, h.2.stay t⟩ (KVs.stay t r)
theorem RepO.stay (t : TupS K H H') : ∀ {o : O} {u : HO}, RepO K H o u → RepO K H' o u
  | .lst _, _, h => by obtain ⟨xs, e, r⟩ := h; exact ⟨xs, e, r.stay t⟩
  | .dK _, _, h => by obtain ⟨xs, e, r⟩ := h; exact ⟨xs, e, r.stay t⟩
  | .dT _, _, h => by obtain ⟨xs, e, r⟩ := h; exact ⟨xs, e, r.stay t⟩
  | .ins _ _, _, h => by obtain ⟨dx, xs, e, r⟩ := h; exact ⟨dx, xs, e, r.stay t⟩
  | .frz _, _, h => by obtain ⟨ob, v, e, r⟩ := h; exact ⟨ob, v, e, r.stay t⟩

/-! ### representation, by forms -/
theorem Rep.bl_iff {b : Bool} {v : V} : Rep K H (.bl b) v ↔ v = .bl b := by unfold Rep; exact Iff.rfl
theorem Rep.int_iff {b : Int} {v : V} : Rep K H (.int b) v ↔ v = .int b := by unfold Rep; exact Iff.rfl
theorem Rep.str_iff {b : Str} {v : V} : Rep K H (.str b) v ↔ v = .str b := by unfold Rep; exact Iff.rfl
theorem Rep.non_iff {v : V} : Rep K H .non v ↔ v = .non := by unfold Rep; exact Iff.rfl
theorem Rep.ref_iff {b : Addr} {v : V} : Rep K H (.ref b) v ↔ v = .ref b := by unfold Rep; exact Iff.rfl
theorem Rep.ty_iff {b : String} {v : V} : Rep K H (.ty b) v ↔ v = .ty b := by unfold Rep; exact Iff.rfl
theorem Rep.tup_iff {ds : List D} {v : V} : Rep K H (.tup ds) v ↔ ∃ a xs, v = .ref a ∧ TupAt K H a xs ds.length ∧ Reps K H ds xs := by unfold Rep; exact Iff.rfl
theorem Rep.bl {b : Bool} : Rep K H (.bl b) (.bl b) := Rep.bl_iff.mpr rfl
theorem Rep.int {b : Int} : Rep K H (.int b) (.int b) := Rep.int_iff.mpr rfl
theorem Rep.str {b : Str} : Rep K H (.str b) (.str b) := Rep.str_iff.mpr rfl
theorem Rep.non : Rep K H .non .non := Rep.non_iff.mpr rfl
theorem Rep.ref {b : Addr} : Rep K H (.ref b) (.ref b) := Rep.ref_iff.mpr rfl
theorem Rep.ty {b : String} : Rep K H (.ty b) (.ty b) := Rep.ty_iff.mpr rfl
theorem Reps.nil_iff {vs : List V} : Reps K H [] vs ↔ vs = [] := by unfold Reps; exact Iff.rfl
theorem Reps.cons_iff {d : D} {ds : List D} {vs : List V} : Reps K H (d :: ds) vs ↔ ∃ x r, vs = x :: r ∧ Rep K H d x ∧ Reps K H ds r := by
  conv => lhs; unfold Reps
theorem Reps.nil : Reps K H [] [] := Reps.nil_iff.mpr rfl
theorem Reps.cons {d : D} {ds : List D} {v : V} {vs : List V} (h : Rep K H d v) (r : Reps K H ds vs) : Reps K H (d :: ds) (v :: vs) := Reps.cons_iff.mpr ⟨v, vs, rfl, h, r⟩
theorem Reps.length : ∀ {ds : List D} {vs : List V}, Reps K H ds vs → ds.length = vs.length
  | [], _, h => by rw [Reps.nil_iff.mp h]; rfl
  | d :: ds, _, h => by
    obtain ⟨x, r, e, _, h2⟩ := Reps.cons_iff.mp h
    subst e
    simp [Reps.length h2]
theorem Reps.get : ∀ {ds : List D} {vs : List V} {i : Nat} {d : D}, Reps K H ds vs → ds[i]? = some d → ∃ v, vs[i]? = some v ∧ Rep K H d v
  | [], _, _, _, _, e => by simp at e
  | x :: ds, _, i, d, h, e => by
    obtain ⟨v, r, e2, h1, h2⟩ := Reps.cons_iff.mp h
    subst e2
    cases i with
    | zero =>
      have : x = d := by simpa using e
      subst this; exact ⟨v, by simp, h1⟩
    | succ i =>
      obtain ⟨v', a, b⟩ := Reps.get (i := i) (d := d) h2 (by simpa using e)
      exact ⟨v', by simpa using a, b⟩
theorem Reps.append : ∀ {ds es : List D} {vs ws : List V}, Reps K H ds vs → Reps K H es ws → Reps K H (ds ++ es) (vs ++ ws)
  | [], _, _, _, h, k => by rw [Reps.nil_iff.mp h]; exact k
  | x :: ds, es, _, ws, h, k => by
    obtain ⟨v, r, e2, h1, h2⟩ := Reps.cons_iff.mp h
    subst e2
    exact Reps.cons h1 (Reps.append h2 k)
theorem Reps.take : ∀ {ds : List D} {vs : List V} (n : Nat), Reps K H ds vs → Reps K H (ds.take n) (vs.take n)
  | [], _, _, h => by rw [Reps.nil_iff.mp h]; simp; exact Reps.nil
  | x :: ds, _, n, h => by
    obtain ⟨v, r, e2, h1, h2⟩ := Reps.cons_iff.mp h
    subst e2
    cases n with
    | zero => exact Reps.nil
    | succ n => exact Reps.cons h1 (Reps.take n h2)
theorem Reps.drop : ∀ {ds : List D} {vs : List V} (n : Nat), Reps K H ds vs → Reps K H (ds.drop n) (vs.drop n)
  | [], _, _, h => by rw [Reps.nil_iff.mp h]; simp; exact Reps.nil
  | x :: ds, _, n, h => by
    obtain ⟨v, r, e2, h1, h2⟩ := Reps.cons_iff.mp h
    subst e2
    cases n with
    | zero => exact Reps.cons h1 h2
    | succ n => exact Reps.drop n h2
theorem Reps.set {d : D} {v : V} (hd : Rep K H d v) : ∀ {ds : List D} {vs : List V} (n : Nat), Reps K H ds vs → Reps K H (ds.set n d) (vs.set n v)
  | [], _, _, h => by rw [Reps.nil_iff.mp h]; simp; exact Reps.nil
  | x :: ds, _, n, h => by
    obtain ⟨v, r, e2, h1, h2⟩ := Reps.cons_iff.mp h
    subst e2
    cases n with
    | zero => exact Reps.cons hd h2
    | succ n => exact Reps.cons h1 (Reps.set hd n h2)
theorem Reps.ints (ns : List Int) : Reps K H (ns.map .int) (ns.map .int) := by
  induction ns with
  | nil => exact Reps.nil
  | cons n r ih => exact Reps.cons Rep.int ih

/-! ### the memory changes -/
theorem Step.new (r : RM K H m) {p : Addr} {o : O} {u : HO} (h : H p = none) : Step m H (mput m p o) (upd H p u) := fun a v e n => by
  have ne : a ≠ p := by rintro rfl; rw [h] at e; cases e
  refine ⟨by rw [upd_ne ne]; exact e, ?_⟩
  rcases n with n | ⟨o', n⟩
  · exact .inl (by rw [mput_ne ne]; exact n)
  · exact .inr ⟨o', by rw [mput_ne ne]; exact n⟩
theorem Step.hid (r : RM K H m) {p : Addr} {u : HO} (h : H p = none) : Step m H m (upd H p u) := fun a v e n => by
  have ne : a ≠ p := by rintro rfl; rw [h] at e; cases e
  exact ⟨by rw [upd_ne ne]; exact e, n⟩
theorem RM.hid (r : RM K H m) {p : Addr} {u : HO} (h : H p = none) : RM K (upd H p u) m := fun a o e => by
  obtain ⟨v, h1, h2⟩ := r a o e
  have ne : a ≠ p := by rintro rfl; rw [h] at h1; cases h1
  exact ⟨v, by rw [upd_ne ne]; exact h1, h2.stay ((Step.hid (u := u) r h).tups r)⟩
theorem RM.new (r : RM K H m) {p : Addr} {o : O} {u : HO} (h : H p = none) (x : RepO K H o u) : RM K (upd H p u) (mput m p o) := fun a o' e => by
  have t := (Step.hid (u := u) r h).tups r
  by_cases ne : a = p
  · subst ne
    rw [mput_same] at e; cases e
    exact ⟨u, upd_same, x.stay t⟩
  · rw [mput_ne ne] at e
    obtain ⟨v, h1, h2⟩ := r a o' e
    exact ⟨v, by rw [upd_ne ne]; exact h1, h2.stay t⟩
def Wr : O → Prop
  | .frz _ => False
  | _ => True
theorem nm_wr {a : Addr} {o : O} (h : m a = some o) (w : Wr o) : ¬ Nm m a := fun n => by
  rcases n with n | ⟨o', n⟩
  · rw [h] at n; cases n
  · rw [h] at n; cases n; exact w
theorem Step.put (r : RM K H m) {p : Addr} {o o0 : O} {u : HO} (h : m p = some o0) (w : Wr o0) : Step m H (mput m p o) (upd H p u) := fun a v e n => by
  have ne : a ≠ p := by rintro rfl; exact nm_wr h w n
  refine ⟨by rw [upd_ne ne]; exact e, ?_⟩
  rcases n with n | ⟨o', n⟩
  · exact .inl (by rw [mput_ne ne]; exact n)
  · exact .inr ⟨o', by rw [mput_ne ne]; exact n⟩
theorem RM.put (r : RM K H m) {p : Addr} {o o0 : O} {u : HO} (h : m p = some o0) (w : Wr o0) (x : RepO K H o u) : RM K (upd H p u) (mput m p o) := fun a o' e => by
  have t := (Step.put (u := u) (o := o) r h w).tups r
  by_cases ne : a = p
  · subst ne
    rw [mput_same] at e; cases e
    exact ⟨u, upd_same, x.stay t⟩
  · rw [mput_ne ne] at e
    obtain ⟨v, h1, h2⟩ := r a o' e
    exact ⟨v, by rw [upd_ne ne]; exact h1, h2.stay t⟩
end

/-! ### the locals -/
abbrev StM := List (Option D)
def RepS (K : PySem.W.Frag) (H : Hp) : Option D → Option V → Prop
  | some d, some v => Rep K H d v
  | none, _ => True
  | _, _ => False
abbrev Ss (K : PySem.W.Frag) (H : Hp) : StM → St → Prop := Paired (RepS K H)
section
variable {K : PySem.W.Frag} {H H' : Hp} {m m' : Mem}
theorem Ss.stay (t : TupS K H H') : ∀ {ρ : StM} {σ : St}, Ss K H ρ σ → Ss K H' ρ σ
  | _, _, .nil => .nil
  | _, _, .cons (a := a) (b := b) h r => .cons (by
      cases a with
      | none => trivial
      | some d =>
        cases b with
        | none => exact h
        | some v => exact Rep.stay t h) (Ss.stay t r)
theorem Ss.get : ∀ {ρ : StM} {σ : St} {i : Nat} {d : D}, Ss K H ρ σ → ρ[i]? = some (some d) → ∃ v, σ[i]? = some (some v) ∧ Rep K H d v
  | _, _, _, _, .nil, e => by simp at e
  | _, _, i, d, .cons (a := a) (b := b) h r, e => by
    cases i with
    | zero =>
      have e' : a = some d := by simpa using e
      subst e'
      cases b with
      | none => exact h.elim
      | some v => exact ⟨v, by simp, h⟩
    | succ i =>
      obtain ⟨v, h1, h2⟩ := Ss.get (i := i) (d := d) r (by simpa using e)
      exact ⟨v, by simpa using h1, h2⟩
theorem Ss.set {d : D} {v : V} (hd : Rep K H d v) : ∀ {ρ : StM} {σ : St} (i : Nat), Ss K H ρ σ → Ss K H (ρ.set i (some d)) (σ.set i (some v))
  | _, _, _, .nil => .nil
  | _, _, 0, .cons h r => .cons hd r
  | _, _, i + 1, .cons h r => .cons h (Ss.set hd i r)
theorem Ss.setN {o : Option V} : ∀ {ρ : StM} {σ : St} (i : Nat), Ss K H ρ σ → Ss K H (ρ.set i none) (σ.set i o)
  | _, _, _, .nil => .nil
  | _, _, 0, .cons h r => .cons trivial r
  | _, _, i + 1, .cons h r => .cons h (Ss.setN i r)
def wipeM (ρ : StM) : List Nat → StM
  | [] => ρ
  | i :: r => (wipeM ρ r).set i none
theorem Ss.wipe {ρ : StM} {σ : St} (h : Ss K H ρ σ) : ∀ vs : List Nat, Ss K H (wipeM ρ vs) (wipe σ vs)
  | [] => h
  | i :: r => Ss.setN i (Ss.wipe h r)
end
end Mm
namespace Mm
open PySem L2

/-- what is kept through a def: closed under steps -/
structure Bs where
  P : Mem → Hp → Prop
  cl : ∀ m H m' H', P m H → Step m H m' H' → P m' H'
abbrev KM := D → Mem → Prop
abbrev TEm := StM → Mem → KM → Prop
abbrev TTm := StM → Mem → (Bool → Mem → Prop) → Prop
abbrev TAm := StM → Mem → (List D → Mem → Prop) → Prop
structure EndsM where
  nx : StM → Mem → Prop
  rt : KM
  bk : StM → Mem → Prop := fun _ _ => False
  ct : StM → Mem → Prop := fun _ _ => False
abbrev TSm := EndsM → StM → Mem → Prop
/-- the address of an object, the items of a tuple, ints of an argument list -/
def refAt (x : D) (k : Addr → Prop) : Prop := match x with
  | .ref a => k a
  | _ => False
def tupAt (x : D) (k : List D → Prop) : Prop := match x with
  | .tup ds => k ds
  | _ => False
def twoAt (ds : List D) (k : D → D → Prop) : Prop := match ds with
  | [x, y] => k x y
  | _ => False
def int1At (ds : List D) (k : Int → Prop) : Prop := match ds with
  | [.int i] => k i
  | _ => False
def int2At (ds : List D) (k : Int → Int → Prop) : Prop := match ds with
  | [.int i, .int j] => k i j
  | _ => False
abbrev TGm := D → StM → Mem → (StM → Mem → Prop) → Prop
abbrev TGsm := List D → StM → Mem → (StM → Mem → Prop) → Prop

structure At (K : PySem.W.Frag) (B : Bs) (σ : St) (H : Hp) (ρ : StM) (m : Mem) : Prop where
  s : Ss K H ρ σ
  r : RM K H m
  b : B.P m H
theorem At.step {K : PySem.W.Frag} {B : Bs} {σ : St} {H H' : Hp} {ρ : StM} {m m' : Mem} (a : At K B σ H ρ m) (r : RM K H' m') (t : Step m H m' H') : At K B σ H' ρ m' :=
  ⟨a.s.stay (t.tups a.r), r, B.cl _ _ _ _ a.b t⟩
theorem At.step' {K : PySem.W.Frag} {B : Bs} {σ σ' : St} {H H' : Hp} {ρ ρ' : StM} {m m' : Mem} (a : At K B σ H ρ m) (r : RM K H' m') (t : Step m H m' H') (s : Ss K H' ρ' σ') : At K B σ' H' ρ' m' :=
  ⟨s, r, B.cl _ _ _ _ a.b t⟩
section
variable (K : PySem.W.Frag) (B : Bs)
def uE (p : TEm) : TE := fun σ H Q => ∃ ρ m Qm, At K B σ H ρ m ∧ p ρ m Qm ∧ ∀ d m' v H', Qm d m' → RM K H' m' → Step m H m' H' → Rep K H' d v → Q v H'
def uT (p : TTm) : TT := fun σ H Q => ∃ ρ m Qm, At K B σ H ρ m ∧ p ρ m Qm ∧ ∀ d m' H', Qm d m' → RM K H' m' → Step m H m' H' → Q d H'
def uA (p : TAm) : TA := fun σ H Q => ∃ ρ m Qm, At K B σ H ρ m ∧ p ρ m Qm ∧ ∀ d m' v H', Qm d m' → RM K H' m' → Step m H m' H' → Reps K H' d v → Q v H'
def uN (σ : St → Hp → Prop) (m : Mem) (H : Hp) (n : StM → Mem → Prop) : Prop := ∀ ρ' m' σ' H', n ρ' m' → RM K H' m' → Step m H m' H' → Ss K H' ρ' σ' → σ σ' H'
def uS (p : TSm) : TS := fun D σ H => ∃ ρ m E, At K B σ H ρ m ∧ p E ρ m ∧ uN K D.nx m H E.nx ∧ (∀ d m' v H', E.rt d m' → RM K H' m' → Step m H m' H' → Rep K H' d v → D.rt v H') ∧ uN K D.bk m H E.bk ∧ uN K D.ct m H E.ct
def uG (g : TGm) : TG := fun v σ H Q => ∃ d ρ m Qm, Rep K H d v ∧ At K B σ H ρ m ∧ g d ρ m Qm ∧ uN K Q m H Qm
def uGs (g : TGsm) : TGs := fun v σ H Q => ∃ d ρ m Qm, Reps K H d v ∧ At K B σ H ρ m ∧ g d ρ m Qm ∧ uN K Q m H Qm
end
section
variable {X : Cx} {e : Expr} {st : Stmt} {es : List Expr} {sts : List Stmt}
theorem peImp {t t' : TE} (h : PE X e t) (i : ∀ σ H Q, t' σ H Q → t σ H Q) : PE X e t' := ⟨fun pins s σ H Q I q => h.run pins s σ H Q I (i _ _ _ q)⟩
theorem ptImp {t t' : TT} (h : PT X e t) (i : ∀ σ H Q, t' σ H Q → t σ H Q) : PT X e t' := ⟨fun pins s σ H Q I q => h.run pins s σ H Q I (i _ _ _ q)⟩
theorem pwImp {t t' : TT} (h : PW X e t) (i : ∀ σ H Q, t' σ H Q → t σ H Q) : PW X e t' := ⟨fun wh pins s σ H Q I q => h.run wh pins s σ H Q I (i _ _ _ q)⟩
theorem paImp {t t' : TA} (h : PA X es t) (i : ∀ σ H Q, t' σ H Q → t σ H Q) : PA X es t' := ⟨fun pos pins s σ H Q I q => h.run pos pins s σ H Q I (i _ _ _ q)⟩
theorem psImp {t t' : TS} (h : PS X st t) (i : ∀ D σ H, t' D σ H → t D σ H) : PS X st t' := ⟨fun pins s σ H D I q => h.run pins s σ H D I (i _ _ _ q)⟩
theorem pssImp {t t' : TS} (h : PSs X sts t) (i : ∀ D σ H, t' D σ H → t D σ H) : PSs X sts t' := ⟨fun pins s σ H D I q => h.run pins s σ H D I (i _ _ _ q)⟩
theorem pgImp {t t' : TG} (h : PG X e t) (i : ∀ v σ H Q, t' v σ H Q → t v σ H Q) : PG X e t' := ⟨fun pins s σ H v u Q I r q => h.run pins s σ H v u Q I r (i _ _ _ _ q)⟩
theorem pgsImp {t t' : TGs} (h : PGs X es t) (i : ∀ v σ H Q, t' v σ H Q → t v σ H Q) : PGs X es t' := ⟨fun pins s σ H v u Q I r q => h.run pins s σ H v u Q I r (i _ _ _ _ q)⟩
end
section
variable (X : Cx) (B : Bs)
def MX (e : Expr) (p : TEm) : Prop := PE X e (uE X.K B p)
def MT (e : Expr) (p : TTm) : Prop := PT X e (uT X.K B p)
def MW (e : Expr) (p : TTm) : Prop := PW X e (uT X.K B p)
def MA (es : List Expr) (p : TAm) : Prop := PA X es (uA X.K B p)
def MS (st : Stmt) (p : TSm) : Prop := PS X st (uS X.K B p)
def MSs (st : List Stmt) (p : TSm) : Prop := PSs X st (uS X.K B p)
def MG (e : Expr) (g : TGm) : Prop := PG X e (uG X.K B g)
def MGs (e : List Expr) (g : TGsm) : Prop := PGs X e (uGs X.K B g)
/-- an operator by values -/
abbrev R2m := D → D → Mem → KM → Prop
abbrev R1m := D → Mem → KM → Prop
abbrev RLm := List D → Mem → KM → Prop
def uR2 (K : PySem.W.Frag) (r : R2m) : R2 := fun v w H Q => ∃ x y m Qm, Rep K H x v ∧ Rep K H y w ∧ RM K H m ∧ r x y m Qm ∧ ∀ d m' v H', Qm d m' → RM K H' m' → Step m H m' H' → Rep K H' d v → Q v H'
def uRL (K : PySem.W.Frag) (r : RLm) : List V → Hp → VK → Prop := fun vs H Q => ∃ ds m Qm, Reps K H ds vs ∧ RM K H m ∧ r ds m Qm ∧ ∀ d m' v H', Qm d m' → RM K H' m' → Step m H m' H' → Rep K H' d v → Q v H'
def MOp (f : Value → Value → Sem Value) (r : R2m) : Prop := OpR X f (uR2 X.K r)
def MIx (r : R2m) : Prop := IxR X (uR2 X.K r)
def MCall (f : Value) (r : RLm) : Prop := CallR X f (uRL X.K r)
end
section
variable {X : Cx} {B : Bs} {e a b c : Expr} {es rest : List Expr} {pos : Pos} {pa pb pc : TEm} {ta tb tc : TTm} {la : TAm}
theorem opImp {f : Value → Value → Sem Value} {r r' : R2} (h : OpR X f r) (i : ∀ x y H Q, r' x y H Q → r x y H Q) : OpR X f r' := fun pins s σ H x y v u Q I r1 r2 q => h pins s σ H x y v u Q I r1 r2 (i _ _ _ _ q)
theorem ixImp {r r' : R2} (h : IxR X r) (i : ∀ x y H Q, r' x y H Q → r x y H Q) : IxR X r' := by
  intro value slice pins s σ H x y v u Q I r1 r2 q hs
  exact h value slice pins s σ H x y v u Q I r1 r2 (i _ _ _ _ q) hs
theorem callImp {f : Value} {r r' : List V → Hp → VK → Prop} (h : CallR X f r) (i : ∀ x H Q, r' x H Q → r x H Q) : CallR X f r' := fun pins s σ H xs us Q I r1 q => h pins s σ H xs us Q I r1 (i _ _ _ q)
/-- run a part, then go on -/
theorem uE.go {K : PySem.W.Frag} {p : TEm} {σ : St} {H : Hp} {ρ : StM} {m : Mem} {Qm : KM} {Q : VK} (A : At K B σ H ρ m) (q : p ρ m Qm) (k : ∀ d m' v H', Qm d m' → RM K H' m' → Step m H m' H' → Rep K H' d v → Q v H') : uE K B p σ H Q := ⟨ρ, m, Qm, A, q, k⟩

/-! ### constants, names -/
def wC (d : D) : TEm := fun _ m Q => Q d m
theorem mxC {v : V} {d : D} (h : PE X e (tC v)) (r : ∀ H, Rep X.K H d v) : MX X B e (wC d) := peImp h fun σ H Q ⟨ρ, m, Qm, A, q, k⟩ => k d m v H q A.r Step.refl (r H)
theorem mx_int {i j pos} : MX X B (.Constant (.int i) j pos) (wC (.int i)) := mxC pe_int fun _ => Rep.int
theorem mx_bl {i j pos} : MX X B (.Constant (.bool i) j pos) (wC (.bl i)) := mxC pe_bl fun _ => Rep.bl
theorem mx_non {j pos} : MX X B (.Constant .none j pos) (wC .non) := mxC pe_non fun _ => Rep.non
theorem mx_str {i j pos} : MX X B (.Constant (.str i) j pos) (wC (.str i)) := mxC pe_str fun _ => Rep.str
def wVar (i : Nat) : TEm := fun ρ m Q => ∃ d, ρ[i]? = some (some d) ∧ Q d m
theorem mx_var {i : Nat} (h : PE X e (tVar i)) : MX X B e (wVar i) := peImp h fun σ H Q ⟨ρ, m, Qm, A, ⟨d, e1, q⟩, k⟩ => by
  obtain ⟨v, e2, r⟩ := A.s.get e1
  exact ⟨v, e2, k d m v H q A.r Step.refl r⟩
/-- the name in slot i -/
theorem mv (i : Nat) {x : Str} {pos : Pos} (hN : X.N[i]? = some x := by rfl) (hv : Vis X.env.scope x := by first | exact Or.inl rfl | exact Or.inr (Or.inl rfl) | exact Or.inr (Or.inr rfl)) (hd : (x == ("__debug__" : Str)) = false := by decide)
    (hcd : (x == ("__classdict__" : Str)) = false := by decide) : MX X B (.Name x pos) (wVar i) := mx_var (pe_var hN hv hd hcd)
/-- a global name whose value is known -/
theorem mx_glob {x : Str} {v : V} {d : D} {u : Value} (hg : Gl X x) (hm : X.mg x = some u) (r : RelV v u) (rd : ∀ H, Rep X.K H d v) (hd : (x == ("__debug__" : Str)) = false := by decide) : MX X B (.Name x pos) (wC d) := mxC (pe_glob hg hm r hd) rd

/-! ### operators -/
def wBin (r : R2m) (pa pb : TEm) : TEm := fun ρ m Q => pa ρ m fun x m1 => pb ρ m1 fun y m2 => r x y m2 Q
theorem bin_go {K : PySem.W.Frag} {r : R2m} {r0 : R2} {σ : St} {H : Hp} {Q : VK} (ho : ∀ x y H Q, uR2 K r x y H Q → r0 x y H Q) (h : uE K B (wBin r pa pb) σ H Q) : tOp r0 (uE K B pa) (uE K B pb) σ H Q := by
  obtain ⟨ρ, m, Qm, A, q, k⟩ := h
  refine ⟨ρ, m, _, A, q, fun x m1 v H1 q1 r1 t1 x1 => ?_⟩
  refine ⟨ρ, m1, _, A.step r1 t1, q1, fun y m2 w H2 q2 r2 t2 x2 => ?_⟩
  exact ho _ _ _ _ ⟨x, y, m2, Qm, x1.stay (t2.tups r1), x2, r2, q2, fun d m' v H' q3 r3 t3 x3 => k d m' v H' q3 r3 (t1.trans (t2.trans t3)) x3⟩
theorem mx_op {op : Operator} {r : R2m} (ho : MOp X (binaryOp op) r) (ha : MX X B a pa) (hb : MX X B b pb) : MX X B (.BinOp a op b pos) (wBin r pa pb) :=
  peImp (pe_op ho ha hb) fun σ H Q h => bin_go (fun _ _ _ _ q => q) h
theorem mx_cmp {op : CmpOp} {r : R2m} (ho : MOp X (compareOp op) r) (ha : MX X B a pa) (hb : MX X B b pb) (hm : behindInMarks op b = false) : MX X B (.Compare a [op] [b] pos) (wBin r pa pb) :=
  peImp (pe_cmpR ho ha hb hm) fun σ H Q h => bin_go (fun _ _ _ _ q => q) h
def wTest (p : TEm) : TTm := fun ρ m Q => p ρ m fun d m' => ∃ k, d = .bl k ∧ Q k m'
theorem test_go {K : PySem.W.Frag} {p : TEm} {t : TE} {σ : St} {H : Hp} {Q : Bool → Hp → Prop} (ho : ∀ σ H Q, uE K B p σ H Q → t σ H Q) (h : uT K B (wTest p) σ H Q) : tTest t σ H Q := by
  obtain ⟨ρ, m, Qm, A, q, k⟩ := h
  refine ho _ _ _ ⟨ρ, m, _, A, q, fun d m1 v H1 q1 r1 t1 x1 => ?_⟩
  obtain ⟨b, e, q1⟩ := q1
  subst e
  exact ⟨b, Rep.bl_iff.mp x1, k b m1 H1 q1 r1 t1⟩
theorem mt_cmp {op : CmpOp} {r : R2m} (ho : MOp X (compareOp op) r) (ha : MX X B a pa) (hb : MX X B b pb) (hm : behindInMarks op b = false) : MT X B (.Compare a [op] [b] pos) (wTest (wBin r pa pb)) :=
  ptImp (pt_cmpR ho ha hb hm) fun σ H Q h => test_go (fun _ _ _ q => bin_go (fun _ _ _ _ q => q) q) h
/-- an expression that gives True or False, as a test -/
theorem mt_val {p : TEm} (h : MX X B e p) (he : ∀ whole, isTrue e X.env whole = (do let v ← whole; standAt e.pos; holding [v] (truthy v)) := by intro _; rfl) : MT X B e (wTest p) :=
  ptImp (pt_val h he) fun σ H Q h => test_go (fun _ _ _ q => q) h
def wChain (r r' : R2m) (pa pb pc : TEm) : TEm := fun ρ m Q => pa ρ m fun x m1 => pb ρ m1 fun y m2 => r x y m2 fun z m3 => ∃ k, z = .bl k ∧ if k = true then pc ρ m3 fun w m4 => r' y w m4 Q else Q (.bl false) m3
theorem chain_go {K : PySem.W.Frag} {r r' : R2m} {σ : St} {H : Hp} {Q : VK} (h : uE K B (wChain r r' pa pb pc) σ H Q) : tChain (uR2 K r) (uR2 K r') (uE K B pa) (uE K B pb) (uE K B pc) σ H Q := by
  obtain ⟨ρ, m, Qm, A, q, k⟩ := h
  refine ⟨ρ, m, _, A, q, fun x m1 v H1 q1 r1 t1 x1 => ?_⟩
  refine ⟨ρ, m1, _, A.step r1 t1, q1, fun y m2 w H2 q2 r2 t2 x2 => ?_⟩
  refine ⟨x, y, m2, _, x1.stay (t2.tups r1), x2, r2, q2, fun z m3 v3 H3 q3 r3 t3 x3 => ?_⟩
  obtain ⟨b, e, q3⟩ := q3
  subst e
  refine ⟨b, Rep.bl_iff.mp x3, ?_⟩
  have t13 := t1.trans (t2.trans t3)
  cases b with
  | false =>
    simp only [Bool.false_eq_true, if_false] at q3 ⊢
    exact k _ _ _ _ q3 r3 t13 Rep.bl
  | true =>
    simp only [if_true] at q3 ⊢
    refine ⟨ρ, m3, _, A.step r3 t13, q3, fun w m4 v4 H4 q4 r4 t4 x4 => ?_⟩
    exact ⟨y, w, m4, Qm, (x2.stay (t3.tups r2)).stay (t4.tups r3), x4, r4, q4, fun d m' v H' q5 r5 t5 x5 => k d m' v H' q5 r5 (t13.trans (t4.trans t5)) x5⟩
theorem mx_chain {op op' : CmpOp} {r r' : R2m} (ho : MOp X (compareOp op) r) (ho' : MOp X (compareOp op') r') (ha : MX X B a pa) (hb : MX X B b pb) (hc : MX X B c pc) (hm : lastMarks [op, op'] [b, c] = false := by with_unfolding_all rfl) : MX X B (.Compare a [op, op'] [b, c] pos) (wChain r r' pa pb pc) :=
  peImp (pe_chain ho ho' ha hb hc hm) fun σ H Q h => chain_go h
theorem mt_chain {op op' : CmpOp} {r r' : R2m} (ho : MOp X (compareOp op) r) (ho' : MOp X (compareOp op') r') (ha : MX X B a pa) (hb : MX X B b pb) (hc : MX X B c pc) (hm : lastMarks [op, op'] [b, c] = false := by with_unfolding_all rfl) : MT X B (.Compare a [op, op'] [b, c] pos) (wTest (wChain r r' pa pb pc)) :=
  ptImp (pt_chain ho ho' ha hb hc hm) fun σ H Q h => test_go (fun _ _ _ q => chain_go q) h
/-- from a rule of the hand layer -/
theorem mop_of {f : Value → Value → Sem Value} {r : R2m} {r0 : R2} (h : OpR X f r0) (i : ∀ x y v w H m Q Qm, Rep X.K H x v → Rep X.K H y w → RM X.K H m → r x y m Qm → (∀ d m' v H', Qm d m' → RM X.K H' m' → Step m H m' H' → Rep X.K H' d v → Q v H') → r0 v w H Q) : MOp X f r :=
  opImp h fun v w H Q ⟨x, y, m, Qm, hx, hy, r, q, k⟩ => i x y v w H m Q Qm hx hy r q k
def wI (C : Int → Int → Prop) (g : Int → Int → D) : R2m := fun x y m Q => match x, y with
  | .int i, .int j => C i j ∧ Q (g i j) m
  | _, _ => False
def wI0 (g : Int → Int → D) : R2m := fun x y m Q => match x, y with
  | .int i, .int j => Q (g i j) m
  | _, _ => False
theorem mopI {f : Value → Value → Sem Value} {C : Int → Int → Prop} {g : Int → Int → V} {gd : Int → Int → D} (h : OpR X f (rI C g)) (hg : ∀ i j H, Rep X.K H (gd i j) (g i j)) : MOp X f (wI C gd) := mop_of h fun x y v w H m Q Qm hx hy r q k => by
  unfold wI at q
  split at q
  · rw [Rep.int_iff.mp hx, Rep.int_iff.mp hy]
    exact ⟨_, _, rfl, rfl, q.1, k _ _ _ _ q.2 r Step.refl (hg _ _ _)⟩
  · exact q.elim
theorem mopI0 {f : Value → Value → Sem Value} {g : Int → Int → V} {gd : Int → Int → D} (h : OpR X f (rI0 g)) (hg : ∀ i j H, Rep X.K H (gd i j) (g i j)) : MOp X f (wI0 gd) := mop_of h fun x y v w H m Q Qm hx hy r q k => by
  unfold wI0 at q
  split at q
  · rw [Rep.int_iff.mp hx, Rep.int_iff.mp hy]
    exact ⟨_, _, rfl, rfl, k _ _ _ _ q r Step.refl (hg _ _ _)⟩
  · exact q.elim
theorem mo_add : MOp X (binaryOp .Add) (wI0 fun i j => .int (i + j)) := mopI0 op_add fun _ _ _ => Rep.int
theorem mo_sub : MOp X (binaryOp .Sub) (wI0 fun i j => .int (i - j)) := mopI0 op_sub fun _ _ _ => Rep.int
theorem mo_mul : MOp X (binaryOp .Mult) (wI CMul fun i j => .int (i * j)) := mopI op_mul fun _ _ _ => Rep.int
theorem mo_mulW : MOp X (binaryOp .Mult) (wI CMulW fun i j => .int (i * j)) := mopI op_mulW fun _ _ _ => Rep.int
theorem mo_mod : MOp X (binaryOp .Mod) (wI (fun _ j => 0 < j) fun i j => .int (i % j)) := mopI op_mod fun _ _ _ => Rep.int
theorem mo_div : MOp X (binaryOp .FloorDiv) (wI CDivW fun i j => .int (i / j)) := mopI op_fdivW fun _ _ _ => Rep.int
theorem mo_pow : MOp X (binaryOp .Pow) (wI CPow fun i j => .int (i ^ j.toNat)) := mopI op_pow fun _ _ _ => Rep.int
theorem mo_lt : MOp X (compareOp .Lt) (wI0 fun i j => .bl (decide (i < j))) := mopI0 op_lt fun _ _ _ => Rep.bl
theorem mo_le : MOp X (compareOp .LtE) (wI0 fun i j => .bl (decide (i ≤ j))) := mopI0 op_le fun _ _ _ => Rep.bl
theorem mo_gt : MOp X (compareOp .Gt) (wI0 fun i j => .bl (decide (j < i))) := mopI0 op_gt fun _ _ _ => Rep.bl
theorem mo_ge : MOp X (compareOp .GtE) (wI0 fun i j => .bl (decide (j ≤ i))) := mopI0 op_ge fun _ _ _ => Rep.bl
/-- == of two flat things -/
def scD : D → D → Option Bool
  | .int i, .int j => some (decide (i = j))
  | .str i, .str j => some (decide (i = j))
  | .bl i, .bl j => some (decide (i = j))
  | .non, .non => some true
  | _, _ => none
def wEq : R2m := fun x y m Q => match scD x y with
  | some b => Q (.bl b) m
  | none => False
def wNe : R2m := fun x y m Q => match scD x y with
  | some b => Q (.bl (!b)) m
  | none => False
theorem scD_of {K : PySem.W.Frag} {H : Hp} {x y : D} {v w : V} {b : Bool} (hx : Rep K H x v) (hy : Rep K H y w) (h : scD x y = some b) : scal v w = true ∧ decide (v = w) = b := by
  unfold scD at h
  split at h
  · rw [Rep.int_iff.mp hx, Rep.int_iff.mp hy]; cases h; exact ⟨rfl, by rw [decide_eq_decide]; exact ⟨fun e => by injection e, fun e => by rw [e]⟩⟩
  · rw [Rep.str_iff.mp hx, Rep.str_iff.mp hy]; cases h; exact ⟨rfl, by rw [decide_eq_decide]; exact ⟨fun e => by injection e, fun e => by rw [e]⟩⟩
  · rw [Rep.bl_iff.mp hx, Rep.bl_iff.mp hy]; cases h; exact ⟨rfl, by rw [decide_eq_decide]; exact ⟨fun e => by injection e, fun e => by rw [e]⟩⟩
  · rw [Rep.non_iff.mp hx, Rep.non_iff.mp hy]; cases h; exact ⟨rfl, by simp⟩
  · cases h
theorem mo_eq : MOp X (compareOp .Eq) wEq := mop_of op_eq fun x y v w H m Q Qm hx hy r q k => by
  unfold wEq at q
  split at q
  · rename_i b e
    obtain ⟨h1, h2⟩ := scD_of hx hy e
    exact ⟨h1, by rw [h2]; exact k _ _ _ _ q r Step.refl Rep.bl⟩
  · exact q.elim
theorem mo_ne : MOp X (compareOp .NotEq) wNe := mop_of op_ne fun x y v w H m Q Qm hx hy r q k => by
  unfold wNe at q
  split at q
  · rename_i b e
    obtain ⟨h1, h2⟩ := scD_of hx hy e
    exact ⟨h1, by rw [h2]; exact k _ _ _ _ q r Step.refl Rep.bl⟩
  · exact q.elim
def wAddS : R2m := fun x y m Q => match x, y with
  | .str i, .str j => i.length + j.length ≤ sizeLine ∧ Q (.str (i ++ j)) m
  | _, _ => False
theorem mo_addS : MOp X (binaryOp .Add) wAddS := mop_of op_add_str fun x y v w H m Q Qm hx hy r q k => by
  unfold wAddS at q
  split at q
  · rw [Rep.str_iff.mp hx, Rep.str_iff.mp hy]
    exact ⟨_, _, rfl, rfl, q.1, k _ _ _ _ q.2 r Step.refl Rep.str⟩
  · exact q.elim
def isN : D → Bool
  | .non => true
  | _ => false
theorem isN_of {K : PySem.W.Frag} {H : Hp} {x : D} {v : V} (hx : Rep K H x v) : decide (v = .non) = isN x := by
  cases x with
  | non => rw [Rep.non_iff.mp hx]; rfl
  | bl b => rw [Rep.bl_iff.mp hx]; rfl
  | int b => rw [Rep.int_iff.mp hx]; rfl
  | str b => rw [Rep.str_iff.mp hx]; rfl
  | ref b => rw [Rep.ref_iff.mp hx]; rfl
  | ty b => rw [Rep.ty_iff.mp hx]; rfl
  | tup b => obtain ⟨a, xs, e, _⟩ := Rep.tup_iff.mp hx; rw [e]; rfl
def wIsN : R2m := fun x y m Q => match y with
  | .non => Q (.bl (isN x)) m
  | _ => False
def wNotN : R2m := fun x y m Q => match y with
  | .non => Q (.bl (!isN x)) m
  | _ => False
theorem mo_isN : MOp X (compareOp .Is) wIsN := mop_of op_isN fun x y v w H m Q Qm hx hy r q k => by
  unfold wIsN at q
  split at q
  · exact ⟨Rep.non_iff.mp hy, by rw [isN_of hx]; exact k _ _ _ _ q r Step.refl Rep.bl⟩
  · exact q.elim
theorem mo_notN : MOp X (compareOp .IsNot) wNotN := mop_of op_notN fun x y v w H m Q Qm hx hy r q k => by
  unfold wNotN at q
  split at q
  · exact ⟨Rep.non_iff.mp hy, by rw [isN_of hx]; exact k _ _ _ _ q r Step.refl Rep.bl⟩
  · exact q.elim

/-! ### and, or, not, if -/
def wAnd (t u : TTm) : TTm := fun ρ m Q => t ρ m fun c m1 => if c = true then u ρ m1 Q else Q false m1
def wOr (t u : TTm) : TTm := fun ρ m Q => t ρ m fun c m1 => if c = true then Q true m1 else u ρ m1 Q
def wNot (t : TTm) : TTm := fun ρ m Q => t ρ m fun c m1 => Q (!c) m1
theorem mw_pt {t : TTm} (h : MW X B e t) : MT X B e t := h.pt
theorem mw_and1 (ha : MT X B a ta) : MW X B (.BoolOp .And [a] pos) ta := pw_and1 ha
theorem mw_or1 (ha : MT X B a ta) : MW X B (.BoolOp .Or [a] pos) ta := pw_or1 ha
theorem mw_and (ha : MT X B a ta) (hb : MW X B (.BoolOp .And (b :: rest) pos) tb) : MW X B (.BoolOp .And (a :: b :: rest) pos) (wAnd ta tb) :=
  pwImp (pw_and ha hb) fun σ H Q ⟨ρ, m, Qm, A, q, k⟩ => by
    refine ⟨ρ, m, _, A, q, fun c m1 H1 q1 r1 t1 => ?_⟩
    cases c with
    | true => simp only [if_true] at q1 ⊢; exact ⟨ρ, m1, Qm, A.step r1 t1, q1, fun d m' H' q2 r2 t2 => k d m' H' q2 r2 (t1.trans t2)⟩
    | false => simp only [Bool.false_eq_true, if_false] at q1 ⊢; exact k _ _ _ q1 r1 t1
theorem mw_or (ha : MT X B a ta) (hb : MW X B (.BoolOp .Or (b :: rest) pos) tb) : MW X B (.BoolOp .Or (a :: b :: rest) pos) (wOr ta tb) :=
  pwImp (pw_or ha hb) fun σ H Q ⟨ρ, m, Qm, A, q, k⟩ => by
    refine ⟨ρ, m, _, A, q, fun c m1 H1 q1 r1 t1 => ?_⟩
    cases c with
    | false => simp only [Bool.false_eq_true, if_false] at q1 ⊢; exact ⟨ρ, m1, Qm, A.step r1 t1, q1, fun d m' H' q2 r2 t2 => k d m' H' q2 r2 (t1.trans t2)⟩
    | true => simp only [if_true] at q1 ⊢; exact k _ _ _ q1 r1 t1
theorem mt_not (ha : MT X B a ta) : MT X B (.UnaryOp .Not a pos) (wNot ta) :=
  ptImp (pt_not ha) fun σ H Q ⟨ρ, m, Qm, A, q, k⟩ => ⟨ρ, m, _, A, q, fun c m1 H1 q1 r1 t1 => k _ _ _ q1 r1 t1⟩
/-- a value that is True or False, by and, or, not -/
def wAndV (p q : TEm) : TEm := fun ρ m Q => p ρ m fun d m1 => ∃ c, d = .bl c ∧ if c = true then q ρ m1 Q else Q (.bl false) m1
def wOrV (p q : TEm) : TEm := fun ρ m Q => p ρ m fun d m1 => ∃ c, d = .bl c ∧ if c = true then Q (.bl true) m1 else q ρ m1 Q
def wNotV (p : TEm) : TEm := fun ρ m Q => p ρ m fun d m1 => ∃ c, d = .bl c ∧ Q (.bl (!c)) m1
theorem mx_one {op} {p : TEm} (h : MX X B a p) : MX X B (.BoolOp op [a] pos) p := pe_one h
theorem mx_and (ha : MX X B a pa) (hb : MX X B (.BoolOp .And (b :: rest) pos) pb) : MX X B (.BoolOp .And (a :: b :: rest) pos) (wAndV pa pb) :=
  peImp (pe_and ha hb) fun σ H Q ⟨ρ, m, Qm, A, q, k⟩ => by
    refine ⟨ρ, m, _, A, q, fun d m1 v H1 ⟨c, e, q1⟩ r1 t1 x1 => ?_⟩
    subst e
    refine ⟨c, Rep.bl_iff.mp x1, ?_⟩
    cases c with
    | true => simp only [if_true] at q1 ⊢; exact ⟨ρ, m1, Qm, A.step r1 t1, q1, fun d m' v H' q2 r2 t2 => k d m' v H' q2 r2 (t1.trans t2)⟩
    | false => simp only [Bool.false_eq_true, if_false] at q1 ⊢; exact k _ _ _ _ q1 r1 t1 Rep.bl
theorem mx_or (ha : MX X B a pa) (hb : MX X B (.BoolOp .Or (b :: rest) pos) pb) : MX X B (.BoolOp .Or (a :: b :: rest) pos) (wOrV pa pb) :=
  peImp (pe_or ha hb) fun σ H Q ⟨ρ, m, Qm, A, q, k⟩ => by
    refine ⟨ρ, m, _, A, q, fun d m1 v H1 ⟨c, e, q1⟩ r1 t1 x1 => ?_⟩
    subst e
    refine ⟨c, Rep.bl_iff.mp x1, ?_⟩
    cases c with
    | false => simp only [Bool.false_eq_true, if_false] at q1 ⊢; exact ⟨ρ, m1, Qm, A.step r1 t1, q1, fun d m' v H' q2 r2 t2 => k d m' v H' q2 r2 (t1.trans t2)⟩
    | true => simp only [if_true] at q1 ⊢; exact k _ _ _ _ q1 r1 t1 Rep.bl
theorem mx_not (ha : MX X B a pa) : MX X B (.UnaryOp .Not a pos) (wNotV pa) :=
  peImp (pe_not ha) fun σ H Q ⟨ρ, m, Qm, A, q, k⟩ => by
    refine ⟨ρ, m, _, A, q, fun d m1 v H1 ⟨c, e, q1⟩ r1 t1 x1 => ?_⟩
    subst e
    exact ⟨c, Rep.bl_iff.mp x1, k _ _ _ _ q1 r1 t1 Rep.bl⟩
def wIf (t : TTm) (p q : TEm) : TEm := fun ρ m Q => t ρ m fun c m1 => if c = true then p ρ m1 Q else q ρ m1 Q
theorem mx_if (hc : MT X B c tc) (ha : MX X B a pa) (hb : MX X B b pb) : MX X B (.IfExp c a b pos) (wIf tc pa pb) :=
  peImp (pe_ifExp hc ha hb) fun σ H Q ⟨ρ, m, Qm, A, q, k⟩ => by
    refine ⟨ρ, m, _, A, q, fun d m1 H1 q1 r1 t1 => ?_⟩
    cases d with
    | true => simp only [if_true] at q1 ⊢; exact ⟨ρ, m1, Qm, A.step r1 t1, q1, fun d m' v H' q2 r2 t2 => k d m' v H' q2 r2 (t1.trans t2)⟩
    | false => simp only [Bool.false_eq_true, if_false] at q1 ⊢; exact ⟨ρ, m1, Qm, A.step r1 t1, q1, fun d m' v H' q2 r2 t2 => k d m' v H' q2 r2 (t1.trans t2)⟩
def wNeg : R1m := fun x m Q => match x with
  | .int i => Q (.int (-i)) m
  | _ => False
def wUn (r : R1m) (p : TEm) : TEm := fun ρ m Q => p ρ m fun d m1 => r d m1 Q
theorem mx_neg (ha : MX X B a pa) : MX X B (.UnaryOp .USub a pos) (wUn wNeg pa) :=
  peImp (pe_un un_neg ha) fun σ H Q ⟨ρ, m, Qm, A, q, k⟩ => by
    refine ⟨ρ, m, _, A, q, fun d m1 v H1 q1 r1 t1 x1 => ?_⟩
    unfold wNeg at q1
    split at q1
    · exact ⟨_, Rep.int_iff.mp x1, k _ _ _ _ q1 r1 t1 Rep.int⟩
    · exact q1.elim

/-! ### argument lists, displays -/
def wNil : TAm := fun _ m Q => Q [] m
def wCons (p : TEm) (t : TAm) : TAm := fun ρ m Q => p ρ m fun d m1 => t ρ m1 fun ds m2 => Q (d :: ds) m2
theorem ma_nil : MA X B [] wNil := paImp pa_nil fun σ H Q ⟨ρ, m, Qm, A, q, k⟩ => k [] m [] H q A.r Step.refl Reps.nil
theorem ma_cons (ha : MX X B e pa) (hr : MA X B es la) (hs : starEach (e :: es) X.env = (false, eval e X.env) :: starEach es X.env := by rfl) : MA X B (e :: es) (wCons pa la) :=
  paImp (pa_cons ha hr hs) fun σ H Q ⟨ρ, m, Qm, A, q, k⟩ => by
    refine ⟨ρ, m, _, A, q, fun d m1 v H1 q1 r1 t1 x1 => ?_⟩
    refine ⟨ρ, m1, _, A.step r1 t1, q1, fun ds m2 vs H2 q2 r2 t2 x2 => ?_⟩
    exact k _ _ _ _ q2 r2 (t1.trans t2) (Reps.cons (x1.stay (t2.tups r1)) x2)
def wTup (t : TAm) : TEm := fun ρ m Q => t ρ m fun ds m1 => ds.length ≤ sizeLine ∧ Q (.tup ds) m1
theorem mx_tup {k : Nat} (h : MA X B es la) : MX X B (.Tuple es k pos) (wTup la) :=
  peImp (pe_tup h) fun σ H Q ⟨ρ, m, Qm, A, q, k⟩ => by
    refine ⟨ρ, m, _, A, q, fun ds m1 vs H1 ⟨z, q1⟩ r1 t1 x1 => ⟨by rw [← x1.length]; exact z, fun p hp => ?_⟩⟩
    have t2 : Step m1 H1 m1 (upd H1 p (.tup vs)) := Step.hid r1 hp
    exact k _ _ _ _ q1 (r1.hid hp) (t1.trans t2) (Rep.tup_iff.mpr ⟨p, vs, rfl, TupAt.of upd_same, x1.stay (t2.tups r1)⟩)
/-- a new object is laid -/
def newO (o : O) (m : Mem) (Q : KM) : Prop := ∀ p, m p = none → Q (.ref p) (mput m p o)
theorem new_go {K : PySem.W.Frag} {m0 m1 : Mem} {H0 H1 : Hp} {o : O} {u : HO} {Qm : KM} {Q : VK} (q : newO o m1 Qm) (r1 : RM K H1 m1) (t1 : Step m0 H0 m1 H1) (x : RepO K H1 o u) (k : ∀ d m' v H', Qm d m' → RM K H' m' → Step m0 H0 m' H' → Rep K H' d v → Q v H') :
    ∀ p, H1 p = none → Q (.ref p) (upd H1 p u) := fun p hp => k _ _ _ _ (q p (r1.out hp)) (r1.new hp x) (t1.trans (Step.new r1 hp)) Rep.ref
def wLst (t : TAm) : TEm := fun ρ m Q => t ρ m fun ds m1 => ds.length ≤ sizeLine ∧ newO (.lst ds) m1 Q
theorem mx_lst (h : MA X B es la) : MX X B (.List es pos) (wLst la) :=
  peImp (pe_lst h) fun σ H Q ⟨ρ, m, Qm, A, q, k⟩ => by
    refine ⟨ρ, m, _, A, q, fun ds m1 vs H1 ⟨z, q1⟩ r1 t1 x1 => ⟨by rw [← x1.length]; exact z, ?_⟩⟩
    exact new_go q1 r1 t1 ⟨vs, rfl, x1⟩ k

/-! ### reading an object -/
def rdM (m : Mem) (a : Addr) : Option O := match m a with
  | some (.frz o) => some o
  | o => o
theorem rd_of {m : Mem} {a : Addr} {o : O} (h : m a = some o) (w : Wr o) : rdM m a = some o := by
  unfold rdM; rw [h]; cases o <;> first | rfl | exact w.elim
theorem rd_frz {m : Mem} {a : Addr} {o : O} (h : m a = some (.frz o)) : rdM m a = some o := by unfold rdM; rw [h]
theorem rd_go {K : PySem.W.Frag} {H : Hp} {m : Mem} {a : Addr} {o : O} (r : RM K H m) (h : rdM m a = some o) : ∃ u, Rd H a u ∧ RepO K H o u := by
  unfold rdM at h
  split at h
  · rename_i o' e
    cases h
    obtain ⟨u, h1, ob, v, rfl, h2⟩ := r a _ e
    exact ⟨v, .inr ⟨ob, h1⟩, h2⟩
  · obtain ⟨u, h1, h2⟩ := r a _ h
    exact ⟨u, .inl h1, h2⟩
theorem rd_lst {K : PySem.W.Frag} {H : Hp} {m : Mem} {a : Addr} {ds : List D} (r : RM K H m) (h : rdM m a = some (.lst ds)) : ∃ xs, SqL K H a xs ∧ Reps K H ds xs := by
  obtain ⟨u, h1, xs, rfl, h2⟩ := rd_go r h
  exact ⟨xs, .inl h1, h2⟩
end
end Mm
namespace Mm
open PySem L2
section
variable {X : Cx} {B : Bs} {e a b c : Expr} {st : Stmt} {es : List Expr} {rest : List Stmt} {pos : Pos} {pa pb pc p : TEm} {ta tb tc : TTm} {la : TAm} {t u : TSm}

/-! ### statements -/
def wSeq (t u : TSm) : TSm := fun E ρ m => t { E with nx := u E } ρ m
def wNext : TSm := fun E ρ m => E.nx ρ m
theorem uN.refl {K : PySem.W.Frag} {n : St → Hp → Prop} {m : Mem} {H : Hp} {nm : StM → Mem → Prop} {σ : St} {ρ : StM} (h : uN K n m H nm) (A : At K B σ H ρ m) (q : nm ρ m) : n σ H := h _ _ _ _ q A.r Step.refl A.s
theorem uN.trans {K : PySem.W.Frag} {n : St → Hp → Prop} {m m1 : Mem} {H H1 : Hp} {nm : StM → Mem → Prop} (h : uN K n m H nm) (t1 : Step m H m1 H1) : uN K n m1 H1 nm := fun ρ' m' σ' H' q r t s => h ρ' m' σ' H' q r (t1.trans t) s
theorem mss_nil : MSs X B [] wNext := pssImp pss_nil fun D σ H ⟨ρ, m, E, A, q, n, _⟩ => n.refl A q
theorem mss_one (h : MS X B st t) : MSs X B [st] t := pss_one h
theorem mss_cons (h1 : MS X B st t) (h2 : MSs X B rest u) : MSs X B (st :: rest) (wSeq t u) := pssImp (pss_cons h1 h2) fun D σ H ⟨ρ, m, E, A, q, n, rt, bk, ct⟩ => by
  refine ⟨ρ, m, { E with nx := u E }, A, q, ?_, rt, bk, ct⟩
  intro ρ' m' σ' H' q' r' t' s'
  exact ⟨ρ', m', E, A.step' r' t' s', q', n.trans t', fun d m2 v H2 q2 r2 t2 x2 => rt d m2 v H2 q2 r2 (t'.trans t2) x2, bk.trans t', ct.trans t'⟩
theorem ms_pass : MS X B (.Pass pos) wNext := psImp ps_pass fun D σ H ⟨ρ, m, E, A, q, n, _⟩ => n.refl A q
theorem ms_doc {x j pos pos'} : MS X B (.Expr (.Constant (.str x) j pos) pos') wNext := psImp ps_doc fun D σ H ⟨ρ, m, E, A, q, n, _⟩ => n.refl A q
def wBreak : TSm := fun E ρ m => E.bk ρ m
def wCont : TSm := fun E ρ m => E.ct ρ m
theorem ms_break : MS X B (.Break pos) wBreak := psImp ps_break fun D σ H ⟨ρ, m, E, A, q, n, _, bk, _⟩ => bk.refl A q
theorem ms_continue : MS X B (.Continue pos) wCont := psImp ps_continue fun D σ H ⟨ρ, m, E, A, q, n, _, _, ct⟩ => ct.refl A q
def wDrop (p : TEm) : TSm := fun E ρ m => p ρ m fun _ m1 => E.nx ρ m1
theorem ms_expr (h : MX X B e p) (hs : swapsWith e none pos.line X.env = pure false := by rfl) : MS X B (.Expr e pos) (wDrop p) := psImp (ps_expr h hs) fun D σ H ⟨ρ, m, E, A, q, n, _⟩ =>
  ⟨ρ, m, _, A, q, fun d m1 v H1 q1 r1 t1 x1 => n _ _ _ _ q1 r1 t1 (A.s.stay (t1.tups A.r))⟩
def wRet (p : TEm) : TSm := fun E ρ m => p ρ m E.rt
theorem ms_ret (h : MX X B e p) : MS X B (.Return (some e) pos) (wRet p) := psImp (ps_ret h) fun D σ H ⟨ρ, m, E, A, q, n, rt, _⟩ => ⟨ρ, m, _, A, q, rt⟩
def wRetN : TSm := fun E _ m => E.rt .non m
theorem ms_retN : MS X B (.Return none pos) wRetN := psImp ps_retN fun D σ H ⟨ρ, m, E, A, q, n, rt, _⟩ => rt _ _ _ _ q A.r Step.refl Rep.non
def wIfS (c : TTm) (t u : TSm) : TSm := fun E ρ m => c ρ m fun b m1 => if b = true then t E ρ m1 else u E ρ m1
theorem ms_if {xs ys : List Stmt} (hc : MT X B c tc) (ha : MSs X B xs t) (hb : MSs X B ys u) : MS X B (.If c xs ys pos) (wIfS tc t u) := psImp (ps_if hc ha hb) fun D σ H ⟨ρ, m, E, A, q, n, rt, bk, ct⟩ => by
  refine ⟨ρ, m, _, A, q, fun d m1 H1 q1 r1 t1 => ?_⟩
  have fin : ∀ {v : TSm}, v E ρ m1 → uS X.K B v D σ H1 := fun {v} z => ⟨ρ, m1, E, A.step r1 t1, z, n.trans t1, fun d m2 v H2 q2 r2 t2 x2 => rt d m2 v H2 q2 r2 (t1.trans t2) x2, bk.trans t1, ct.trans t1⟩
  cases d with
  | true => simp only [if_true] at q1 ⊢; exact fin q1
  | false => simp only [Bool.false_eq_true, if_false] at q1 ⊢; exact fin q1
def wNever : TSm := fun _ _ _ => False
theorem ms_never : MS X B st wNever := psImp ps_never fun D σ H ⟨ρ, m, E, A, q, _⟩ => q
theorem mss_never {sts : List Stmt} : MSs X B sts wNever := pssImp pss_never fun D σ H ⟨ρ, m, E, A, q, _⟩ => q

/-! ### targets -/
def gN (i : Nat) : TGm := fun d ρ m Q => Q (ρ.set i (some d)) m
theorem mg_name {i : Nat} {x : Str} (hN : X.N.Nodup) (hi : X.N[i]? = some x) (hx : Loc X.env.scope x) (hf : X.fn x = true ∨ X.env.scope.names.lookup x = some .local := by first | exact .inl rfl | exact .inr rfl | assumption) : MG X B (.Name x pos) (gN i) :=
  pgImp (pg_name hN hi hx hf) fun v σ H Q ⟨d, ρ, m, Qm, x, A, q, k⟩ => k _ _ _ _ q A.r Step.refl (Ss.set x i A.s)
def gNils : TGsm := fun ds ρ m Q => ds = [] ∧ Q ρ m
def gConss (g : TGm) (h : TGsm) : TGsm := fun ds ρ m Q => match ds with
  | d :: r => g d ρ m fun ρ1 m1 => h r ρ1 m1 Q
  | [] => False
theorem mgs_nil : MGs X B [] gNils := pgsImp pgs_nil fun vs σ H Q ⟨ds, ρ, m, Qm, x, A, ⟨e, q⟩, k⟩ => by
  subst e
  exact ⟨Reps.nil_iff.mp x, k _ _ _ _ q A.r Step.refl A.s⟩
theorem mgs_cons {g : TGm} {h : TGsm} (h1 : MG X B e g) (h2 : MGs X B es h) (hs : (assignEach (e :: es) X.env).map (·.2) = assign e X.env :: (assignEach es X.env).map (·.2) := by rfl) : MGs X B (e :: es) (gConss g h) :=
  pgsImp (pgs_cons h1 h2 hs) fun vs σ H Q ⟨ds, ρ, m, Qm, x, A, q, k⟩ => by
    unfold gConss at q
    split at q
    · rename_i d r
      obtain ⟨v, w, e, x1, x2⟩ := Reps.cons_iff.mp x
      refine ⟨v, w, e, d, ρ, m, _, x1, A, q, fun ρ1 m1 σ1 H1 q1 r1 t1 s1 => ?_⟩
      exact ⟨r, ρ1, m1, Qm, x2.stay (t1.tups A.r), A.step' r1 t1 s1, q1, k.trans t1⟩
    · exact q.elim
def gTupM (n : Nat) (h : TGsm) : TGm := fun d ρ m Q => match d with
  | .tup ds => ds.length = n ∧ h ds ρ m Q
  | _ => False
theorem mg_tup {k : Nat} {h : TGsm} {n : Nat} (hc : X.calm = true) (hh : MGs X B es h) (hn : (assignEach es X.env).length = n := by rfl) (hst : (assignEach es X.env).findIdx? (·.1) = none := by rfl) : MG X B (.Tuple es k pos) (gTupM n h) :=
  pgImp (pg_tup hc hh hn hst) fun v σ H Q ⟨d, ρ, m, Qm, x, A, q, k⟩ => by
    unfold gTupM at q
    split at q
    · obtain ⟨a, xs, e, s, r⟩ := Rep.tup_iff.mp x
      exact ⟨a, xs, e, s.sq, by rw [← r.length]; exact q.1, _, ρ, m, Qm, r, A, q.2, k⟩
    · exact q.elim
def wAsg (p : TEm) (g : TGm) : TSm := fun E ρ m => p ρ m fun d m1 => g d ρ m1 E.nx
theorem asg_go {K : PySem.W.Frag} {g : TGm} {D : Ends} {σ : St} {H : Hp} (h : uS K B (wAsg p g) D σ H) : tAsg (uE K B p) (uG K B g) D σ H := by
  obtain ⟨ρ, m, E, A, q, n, _⟩ := h
  exact ⟨ρ, m, _, A, q, fun d m1 v H1 q1 r1 t1 x1 => ⟨d, ρ, m1, _, x1, A.step r1 t1, q1, n.trans t1⟩⟩
theorem ms_asg {tg : Expr} {g : TGm} (h : MX X B e p) (hg : MG X B tg g) (hs : swapsWithSole [tg] e pos.line X.env = pure false := by rfl) (hw : swappedStores [tg] e X.env = pure none := by rfl)
    (h1 : (assignEach [tg] X.env).map (·.2) = [assign tg X.env] := by rfl) : MS X B (.Assign [tg] e pos) (wAsg p g) := psImp (ps_asg h hg hs hw h1) fun D σ H h => asg_go h
def wSet (i : Nat) (p : TEm) : TSm := fun E ρ m => p ρ m fun d m1 => E.nx (ρ.set i (some d)) m1
theorem ms_set {i : Nat} {x : Str} {pos' : Pos} (hN : X.N.Nodup) (hi : X.N[i]? = some x) (hx : Loc X.env.scope x) (h : MX X B e p) (hs : swapsWith e (some (.Name x pos')) pos.line X.env = pure false := by rfl) (hf : X.fn x = true ∨ X.env.scope.names.lookup x = some .local := by first | exact .inl rfl | exact .inr rfl | assumption) :
    MS X B (.Assign [.Name x pos'] e pos) (wSet i p) := psImp (ps_set hN hi hx h hs hf) fun D σ H ⟨ρ, m, E, A, q, n, _⟩ =>
  ⟨ρ, m, _, A, q, fun d m1 v H1 q1 r1 t1 x1 => n _ _ _ _ q1 r1 t1 (Ss.set x1 i (A.s.stay (t1.tups A.r)))⟩
def wPar (i j : Nat) (t : TAm) : TSm := fun E ρ m => t ρ m fun ds m1 => twoAt ds fun x y => E.nx ((ρ.set i (some x)).set j (some y)) m1
theorem ms_par {i j : Nat} {x y : Str} {px py pt : Pos} {kt k2 pt2} (hc : X.calm = true) (hN : X.N.Nodup) (hi : X.N[i]? = some x) (hj : X.N[j]? = some y) (hij : i ≠ j)
    (hx : X.env.scope.names.lookup x = some .local) (hy : X.env.scope.names.lookup y = some .local) (ha : MA X B [a, b] la)
    (hw : swappedStores [.Tuple [.Name x px, .Name y py] kt pt] (.Tuple [a, b] k2 pt2) X.env = pure (some [x, y]))
    (hs : swapsWithSole [.Tuple [.Name x px, .Name y py] kt pt] (.Tuple [a, b] k2 pt2) pos.line X.env = pure false := by rfl) :
    MS X B (.Assign [.Tuple [.Name x px, .Name y py] kt pt] (.Tuple [a, b] k2 pt2) pos) (wPar i j la) := psImp (ps_par hc hN hi hj hij hx hy ha hw hs) fun D σ H ⟨ρ, m, E, A, q, n, _⟩ => by
  refine ⟨ρ, m, _, A, q, fun ds m1 vs H1 q1 r1 t1 x1 => ?_⟩
  unfold twoAt at q1
  split at q1
  · obtain ⟨v, r, e, y1, y2⟩ := Reps.cons_iff.mp x1
    obtain ⟨w, r', e', z1, z2⟩ := Reps.cons_iff.mp y2
    rw [Reps.nil_iff.mp z2] at e'
    subst e'
    exact ⟨v, w, e, n _ _ _ _ q1 r1 t1 (Ss.set z1 j (Ss.set y1 i (A.s.stay (t1.tups A.r))))⟩
  · exact q1.elim

/-! ### subscripts -/
theorem mix_of {r : R2m} {r0 : R2} (h : IxR X r0) (i : ∀ x y v w H m Q Qm, Rep X.K H x v → Rep X.K H y w → RM X.K H m → r x y m Qm → (∀ d m' v H', Qm d m' → RM X.K H' m' → Step m H m' H' → Rep X.K H' d v → Q v H') → r0 v w H Q) : MIx X r :=
  ixImp h fun v w H Q ⟨x, y, m, Qm, hx, hy, r, q, k⟩ => i x y v w H m Q Qm hx hy r q k
theorem mx_ix {r : R2m} (hr : MIx X r) (ha : MX X B a pa) (hb : MX X B b pb) (hs : PlainIx b := by exact fun _ _ => rfl) : MX X B (.Subscript a b pos) (wBin r pa pb) :=
  peImp (pe_ix hr ha hb hs) fun σ H Q h => bin_go (fun _ _ _ _ q => q) h
/-- the item of a sequence at a place -/
def wIx : R2m := fun x y m Q => match x, y with
  | .tup ds, .int i => ∃ d, atI ds i = some d ∧ Q d m
  | .ref a, .int i => ∃ ds d, rdM m a = some (.lst ds) ∧ atI ds i = some d ∧ Q d m
  | .str z, .int i => z.length ≤ sizeLine ∧ ∃ c, atI z.cps.toList i = some c ∧ Q (.str ⟨#[c]⟩) m
  | _, _ => False
theorem atI_rep {K : PySem.W.Frag} {H : Hp} {ds : List D} {vs : List V} {i : Int} {d : D} (h : Reps K H ds vs) (e : atI ds i = some d) : ∃ v, atI vs i = some v ∧ Rep K H d v := by
  unfold atI at e ⊢
  rw [← h.length]
  cases q : ixN ds.length i with
  | none => rw [q] at e; cases e
  | some j =>
    rw [q] at e
    exact h.get e
theorem mi_ix : MIx X wIx := mix_of ix_seq fun x y v w H m Q Qm hx hy r q k => by
  unfold wIx at q
  split at q
  · obtain ⟨d, e, q⟩ := q
    obtain ⟨a, xs, e1, s, rr⟩ := Rep.tup_iff.mp hx
    obtain ⟨v', e2, x2⟩ := atI_rep rr e
    exact .inr (.inl ⟨a, xs, _, v', e1, Rep.int_iff.mp hy, s.sq, e2, k _ _ _ _ q r Step.refl x2⟩)
  · obtain ⟨ds, d, e0, e, q⟩ := q
    obtain ⟨xs, s, rr⟩ := rd_lst r e0
    obtain ⟨v', e2, x2⟩ := atI_rep rr e
    exact .inl ⟨_, xs, _, v', Rep.ref_iff.mp hx, Rep.int_iff.mp hy, s, e2, k _ _ _ _ q r Step.refl x2⟩
  · obtain ⟨z, c, e, q⟩ := q
    exact .inr (.inr ⟨_, _, c, Rep.str_iff.mp hx, Rep.int_iff.mp hy, z, e, k _ _ _ _ q r Step.refl Rep.str⟩)
  · exact q.elim

/-! ### calls of built-ins -/
theorem mcall_of {f : Value} {r : RLm} {r0 : List V → Hp → VK → Prop} (h : CallR X f r0) (i : ∀ ds vs H m Q Qm, Reps X.K H ds vs → RM X.K H m → r ds m Qm → (∀ d m' v H', Qm d m' → RM X.K H' m' → Step m H m' H' → Rep X.K H' d v → Q v H') → r0 vs H Q) : MCall X f r :=
  callImp h fun vs H Q ⟨ds, m, Qm, hx, r, q, k⟩ => i ds vs H m Q Qm hx r q k
def wCB (r : RLm) (t : TAm) : TEm := fun ρ m Q => t ρ m fun ds m1 => r ds m1 Q
theorem cb_go {K : PySem.W.Frag} {r : RLm} {σ : St} {H : Hp} {Q : VK} (h : uE K B (wCB r la) σ H Q) : tCB (uRL K r) (uA K B la) σ H Q := by
  obtain ⟨ρ, m, Qm, A, q, k⟩ := h
  exact ⟨ρ, m, _, A, q, fun ds m1 vs H1 q1 r1 t1 x1 => ⟨ds, m1, Qm, x1, r1, q1, fun d m' v H' q2 r2 t2 x2 => k d m' v H' q2 r2 (t1.trans t2) x2⟩⟩
theorem mx_callB {x : Str} {id : String} {r : RLm} {p : Pos} (hc : MCall X (.builtin id) r) (hm : X.mg x = none) (ha : MA X B (e :: es) la) (hg : Gl X x := by rfl) (hv : bootBuiltins x = some (.builtin id) := by decide +kernel) (hn : x ≠ "__name__" := by decide) (hdb : (x == ("__debug__" : Str)) = false := by decide)
    (he : starEach (e :: es) X.env = (false, eval e X.env) :: starEach es X.env := by rfl) (hpl : (backTo pos (starEach es X.env)).any (·.1) = false := by rfl) : MX X B (.Call (.Name x p) (e :: es) [] pos) (wCB r la) :=
  peImp (pe_callB hc hg hm hv ha hn hdb he hpl) fun σ H Q h => cb_go h
theorem mx_callTy {x : Str} {T : String} {r : RLm} {p : Pos} (hc : MCall X (.type T) r) (hm : X.mg x = none) (ha : MA X B (e :: es) la) (hg : Gl X x := by rfl) (hv : bootBuiltins x = some (.type T) := by decide +kernel) (hn : x ≠ "__name__" := by decide) (hdb : (x == ("__debug__" : Str)) = false := by decide)
    (he : starEach (e :: es) X.env = (false, eval e X.env) :: starEach es X.env := by rfl) (hpl : (backTo pos (starEach es X.env)).any (·.1) = false := by rfl) : MX X B (.Call (.Name x p) (e :: es) [] pos) (wCB r la) :=
  peImp (pe_callTy hc hg hm hv ha hn hdb he hpl) fun σ H Q h => cb_go h
theorem reps1 {K : PySem.W.Frag} {H : Hp} {d : D} {vs : List V} (h : Reps K H [d] vs) : ∃ v, vs = [v] ∧ Rep K H d v := by
  obtain ⟨v, r, e, x, y⟩ := Reps.cons_iff.mp h
  rw [Reps.nil_iff.mp y] at e
  exact ⟨v, e, x⟩
theorem reps2 {K : PySem.W.Frag} {H : Hp} {d d2 : D} {vs : List V} (h : Reps K H [d, d2] vs) : ∃ v w, vs = [v, w] ∧ Rep K H d v ∧ Rep K H d2 w := by
  obtain ⟨v, r, e, x, y⟩ := Reps.cons_iff.mp h
  obtain ⟨w, e2, z⟩ := reps1 y
  subst e2
  exact ⟨v, w, e, x, z⟩
/-- len -/
def wLen : RLm := fun ds m Q => match ds with
  | [.str z] => z.length ≤ sizeLine ∧ Q (.int z.length) m
  | [.tup ds] => Q (.int ds.length) m
  | [.ref a] => (∃ ds, rdM m a = some (.lst ds) ∧ Q (.int ds.length) m) ∨ (∃ kvs, rdM m a = some (.dK kvs) ∧ Q (.int kvs.length) m) ∨ ∃ kvs, m a = some (.dT kvs) ∧ Q (.int kvs.length) m
  | _ => False
end
end Mm
namespace Mm
open PySem L2

/-! ### what is walked: the items, a look at the memory ahead of each turn -/
abbrev TIm := StM → Mem → (List D → (Mem → Prop) → Mem → Prop) → Prop
/-- the iterator J gives the items ds while chk stands -/
def Good (K : PySem.W.Frag) (J : It) (ds : List D) (chk : Mem → Prop) (m1 : Mem) (H1 : Hp) : Prop :=
  ∀ (i : Nat) (m' : Mem) (H' : Hp), Step m1 H1 m' H' → RM K H' m' → chk m' →
    (∀ d, ds[i]? = some d → J.go i H' ∧ ∀ x H2, J.yld i H' x H2 → RM K H2 m' ∧ Step m' H' m' H2 ∧ Rep K H2 d x) ∧ (ds.length ≤ i → J.stop i H')
def uI (K : PySem.W.Frag) (B : Bs) (ti : TIm) : TI := fun σ H R => ∃ ρ m Rm, At K B σ H ρ m ∧ ti ρ m Rm ∧ ∀ ds chk m1 H1 J, Rm ds chk m1 → RM K H1 m1 → Step m H m1 H1 → Good K J ds chk m1 H1 → R J H1
section
variable {X : Cx} {tg iter : Expr}
theorem piImp {t t' : TI} (h : PI X tg iter t) (i : ∀ σ H R, t' σ H R → t σ H R) : PI X tg iter t' := ⟨fun pins s σ H R I q => h.run pins s σ H R I (i _ _ _ q)⟩
end
def MI (X : Cx) (B : Bs) (tg iter : Expr) (ti : TIm) : Prop := PI X tg iter (uI X.K B ti)

section
variable {X : Cx} {B : Bs} {e e2 a b c tg iter : Expr} {st : Stmt} {es : List Expr} {rest body : List Stmt} {pos : Pos} {pa pb pc p : TEm} {ta tb tc : TTm} {la : TAm} {t u : TSm}
/-- over a list, looked at ahead of each turn -/
def iL (p : TEm) : TIm := fun ρ m R => p ρ m fun d m1 => refAt d fun a => ∃ ds, rdM m1 a = some (.lst ds) ∧ R ds (fun m' => rdM m' a = some (.lst ds)) m1
/-- over a list of which nothing else is known while it is walked -/
def iH (p : TEm) : TIm := fun ρ m R => p ρ m fun d m1 => refAt d fun a => ∃ ds m0, rdM m1 a = some (.lst ds) ∧ Sub m0 m1 ∧ Nm m0 a ∧ R ds (fun _ => True) m0
def iT (p : TEm) : TIm := fun ρ m R => p ρ m fun d m1 => tupAt d fun ds => R ds (fun _ => True) m1
theorem good_list {K : PySem.W.Frag} {a : Addr} {ds : List D} {chk : Mem → Prop} {m1 : Mem} {H1 : Hp} (h : ∀ m' H', Step m1 H1 m' H' → RM K H' m' → chk m' → ∃ xs, SqL K H' a xs ∧ Reps K H' ds xs) (hf : ∀ H' xs ys, SqL K H' a xs → SqL K H' a ys → xs = ys → True) :
    Good K ⟨(Itl K a).go, fun i H x H' => H' = H ∧ ∀ xs, SqL K H a xs → xs[i]? = some x, (Itl K a).stop⟩ ds chk m1 H1 := fun i m' H' s r k => by
  obtain ⟨xs, hx, rr⟩ := h m' H' s r k
  refine ⟨fun d e => ?_, fun e => ⟨xs, hx, by rw [← rr.length]; exact e⟩⟩
  obtain ⟨v, e2, x2⟩ := rr.get e
  refine ⟨⟨xs, v, hx, e2⟩, fun x H2 y => ?_⟩
  obtain ⟨e3, y⟩ := y
  subst e3
  have e4 := y xs hx
  rw [e2] at e4; cases e4
  exact ⟨r, Step.refl, x2⟩
theorem mi_list (h : MX X B iter p) : MI X B tg iter (iL p) := piImp (pi_list h) fun σ H R ⟨ρ, m, Rm, A, q, k⟩ => by
  refine ⟨ρ, m, _, A, q, fun d m1 v H1 q1 r1 t1 x1 => ?_⟩
  unfold refAt at q1
  split at q1
  · obtain ⟨ds, e, q1⟩ := q1
    obtain ⟨xs, hx, rr⟩ := rd_lst r1 e
    refine ⟨_, Rep.ref_iff.mp x1, ⟨xs, hx⟩, k _ _ _ _ _ q1 r1 t1 (good_list (fun m' H' s r c => rd_lst r c) fun _ _ _ _ _ _ => trivial)⟩
  · exact q1.elim
theorem sqL_step {K : PySem.W.Frag} {m m' : Mem} {H H' : Hp} {a : Addr} {xs : List V} (s : Step m H m' H') (n : Nm m a) (h : SqL K H a xs) : SqL K H' a xs := by
  rcases h with (h | ⟨ob, h⟩) | h
  · exact .inl (.inl (s a _ h n).1)
  · exact .inl (.inr ⟨ob, (s a _ h n).1⟩)
  · exact .inr h
theorem mi_hid (h : MX X B iter p) : MI X B tg iter (iH p) := piImp (pi_list h) fun σ H R ⟨ρ, m, Rm, A, q, k⟩ => by
  refine ⟨ρ, m, _, A, q, fun d m1 v H1 q1 r1 t1 x1 => ?_⟩
  unfold refAt at q1
  split at q1
  · obtain ⟨ds, m0, e, sb, n, q1⟩ := q1
    obtain ⟨xs, hx, rr⟩ := rd_lst r1 e
    have r0 := r1.sub sb
    refine ⟨_, Rep.ref_iff.mp x1, ⟨xs, hx⟩, k _ _ _ _ _ q1 r0 (t1.sub sb) (good_list (fun m' H' s r c => ⟨xs, sqL_step s n hx, rr.stay (s.tups r0)⟩) fun _ _ _ _ _ _ => trivial)⟩
  · exact q1.elim
theorem mi_tup (h : MX X B iter p) : MI X B tg iter (iT p) := piImp (pi_tup h) fun σ H R ⟨ρ, m, Rm, A, q, k⟩ => by
  refine ⟨ρ, m, _, A, q, fun d m1 v H1 q1 r1 t1 x1 => ?_⟩
  unfold tupAt at q1
  split at q1
  · rename_i ds
    obtain ⟨a, xs, e, hT, rr⟩ := Rep.tup_iff.mp x1
    refine ⟨a, e, ⟨xs, hT.sq⟩, k _ _ _ _ (Itt X.K a) q1 r1 t1 fun i m' H' s r c => ?_⟩
    have hx : SqT X.K H' a xs := ((s.tups r1) _ _ _ hT).sq
    have rr' := rr.stay (s.tups r1)
    refine ⟨fun d e => ?_, fun e => ⟨xs, hx, by rw [← rr'.length]; exact e⟩⟩
    obtain ⟨v, e2, x2⟩ := rr'.get e
    refine ⟨⟨xs, v, hx, e2⟩, fun x H2 y => ?_⟩
    obtain ⟨e3, y⟩ := y
    subst e3
    have e4 := y xs hx
    rw [e2] at e4; cases e4
    exact ⟨r, Step.refl, x2⟩
  · exact q1.elim
/-- ints in a row -/
def rangeD (lo : Int) (n : Nat) : List D := (List.range n).map fun i => .int (lo + (i : Nat))
theorem good_range {K : PySem.W.Frag} {lo : Int} {n : Nat} {m1 : Mem} {H1 : Hp} : Good K (Itr lo n) (rangeD lo n) (fun _ => True) m1 H1 := fun i m' H' s r k => by
  refine ⟨fun d e => ?_, fun e => ?_⟩
  · unfold rangeD at e
    rw [List.getElem?_map] at e
    obtain ⟨j, e1, e2⟩ := Option.map_eq_some_iff.mp e
    have hj : i < n := by
      have := (List.getElem?_eq_some_iff.mp e1).1
      simpa using this
    have : j = i := by
      rw [List.getElem?_range hj] at e1
      exact (Option.some.inj e1).symm
    subst this e2
    exact ⟨hj, fun x H2 y => ⟨by rw [y.1]; exact r, by rw [y.1]; exact Step.refl, by rw [y.2]; exact Rep.int⟩⟩
  · unfold rangeD at e
    simp at e
    exact e
def iR1 (t : TAm) : TIm := fun ρ m R => t ρ m fun ds m1 => int1At ds fun j => -(2 ^ 62) ≤ j ∧ j < 2 ^ 62 ∧ R (rangeD 0 j.toNat) (fun _ => True) m1
def iR2 (t : TAm) : TIm := fun ρ m R => t ρ m fun ds m1 => int2At ds fun i j => (-(2 ^ 62) ≤ i ∧ i < 2 ^ 62 ∧ -(2 ^ 62) ≤ j ∧ j < 2 ^ 62) ∧ R (rangeD i (j - i).toNat) (fun _ => True) m1
theorem mi_range1 {p pos : Pos} (hm : X.mg "range" = none) (ha : MA X B [a] la) (hg : Gl X "range" := by rfl) (hs : starEach [a] X.env = [(false, eval a X.env)] := by rfl) : MI X B tg (.Call (.Name "range" p) [a] [] pos) (iR1 la) := piImp (pi_range1 hg hm ha hs) fun σ H R ⟨ρ, m, Rm, A, q, k⟩ => by
  refine ⟨ρ, m, _, A, q, fun ds m1 vs H1 q1 r1 t1 x1 => ?_⟩
  unfold int1At at q1
  split at q1
  · obtain ⟨v, e, y⟩ := reps1 x1
    rw [Rep.int_iff.mp y] at e
    exact ⟨_, e, q1.1, q1.2.1, k _ _ _ _ _ q1.2.2 r1 t1 good_range⟩
  · exact q1.elim
theorem mi_range2 {p pos : Pos} (hm : X.mg "range" = none) (ha : MA X B [a, b] la) (hg : Gl X "range" := by rfl) (hs : starEach [a, b] X.env = [(false, eval a X.env), (false, eval b X.env)] := by rfl) (hs2 : starEach [b] X.env = [(false, eval b X.env)] := by rfl) :
    MI X B tg (.Call (.Name "range" p) [a, b] [] pos) (iR2 la) := piImp (pi_range2 hg hm ha hs hs2) fun σ H R ⟨ρ, m, Rm, A, q, k⟩ => by
  refine ⟨ρ, m, _, A, q, fun ds m1 vs H1 q1 r1 t1 x1 => ?_⟩
  unfold int2At at q1
  split at q1
  · obtain ⟨v, w, e, y, z⟩ := reps2 x1
    rw [Rep.int_iff.mp y, Rep.int_iff.mp z] at e
    exact ⟨_, _, e, q1.1, k _ _ _ _ _ q1.2 r1 t1 good_range⟩
  · exact q1.elim

/-! ### for -/
def forC (chk : Mem → Prop) (g : TGm) (tb : TSm) (E : EndsM) : List D → StM → Mem → Prop
  | [], ρ, m => chk m ∧ E.nx ρ m
  | d :: r, ρ, m => chk m ∧ g d ρ m fun ρ2 m2 => tb { E with nx := forC chk g tb E r, ct := forC chk g tb E r, bk := E.nx } ρ2 m2
theorem forC.chk {chk : Mem → Prop} {g : TGm} {tb : TSm} {E : EndsM} {ds : List D} {ρ : StM} {m : Mem} (h : forC chk g tb E ds ρ m) : chk m := by
  cases ds with
  | nil => exact h.1
  | cons d r => exact h.1
def wFor (ti : TIm) (g : TGm) (tb : TSm) : TSm := fun E ρ m => ti ρ m fun ds chk m1 => forC chk g tb E ds ρ m1
theorem for_go {K : PySem.W.Frag} {ti : TIm} {g : TGm} {tb : TSm} {D : Ends} {σ : St} {H : Hp} (h : uS K B (wFor ti g tb) D σ H) : tFor (uI K B ti) (uG K B g) (uS K B tb) D σ H := by
  obtain ⟨ρ, m, E, A, q, n, rt, bk, ct⟩ := h
  refine ⟨ρ, m, _, A, q, fun ds chk m1 H1 J q1 r1 t1 gd => ?_⟩
  refine ⟨fun i mm σ' H' => mm = ds.length - i ∧ i ≤ ds.length ∧ ∃ ρ' m', At K B σ' H' ρ' m' ∧ Step m1 H1 m' H' ∧ forC chk g tb E (ds.drop i) ρ' m', ⟨ds.length, by simp, Nat.zero_le _, ρ, m1, A.step r1 t1, Step.refl, by simpa using q1⟩, ?_⟩
  rintro i mm σ' H' ⟨rfl, hi, ρ', m', A', t', q'⟩
  have G := gd i m' H' t' A'.r q'.chk
  by_cases hlt : i < ds.length
  · refine .inr ?_
    have e : ds[i]? = some ds[i] := by simp [hlt]
    obtain ⟨go, yl⟩ := G.1 _ e
    rw [List.drop_eq_getElem_cons hlt] at q'
    refine ⟨go, _, fun σ2 H2 z => ⟨ds.length - (i + 1), by omega, z⟩, fun x H2 y => ?_⟩
    obtain ⟨r2, t2, x2⟩ := yl x H2 y
    have t02 := t1.trans (t'.trans t2)
    refine ⟨_, ρ', m', _, x2, A'.step r2 t2, q'.2, ?_⟩
    intro ρ3 m3 σ3 H3 q3 r3 t3 s3
    have t03 := t02.trans t3
    refine ⟨ρ3, m3, _, (A'.step r2 t2).step' r3 t3 s3, q3, ?_, fun d m4 v H4 q4 r4 t4 x4 => rt d m4 v H4 q4 r4 (t03.trans t4) x4, n.trans t03, ?_⟩
    · intro ρ4 m4 σ4 H4 q4 r4 t4 s4
      exact ⟨rfl, hlt, ρ4, m4, ((A'.step r2 t2).step' r3 t3 s3).step' r4 t4 s4, t'.trans (t2.trans (t3.trans t4)), q4⟩
    · intro ρ4 m4 σ4 H4 q4 r4 t4 s4
      exact ⟨rfl, hlt, ρ4, m4, ((A'.step r2 t2).step' r3 t3 s3).step' r4 t4 s4, t'.trans (t2.trans (t3.trans t4)), q4⟩
  · have e : i = ds.length := by omega
    subst e
    rw [List.drop_length] at q'
    exact .inl ⟨G.2 (Nat.le_refl _), n _ _ _ _ q'.2 A'.r (t1.trans t') A'.s⟩
theorem ms_for {ti : TIm} {g : TGm} {tb : TSm} (hp : PassesOwn (model X.prog X.w) X.A X.env X.xe) (hc : X.calm = true) (hi : MI X B tg iter ti) (hg : MG X B tg g) (hb : MSs X B body tb)
    (hs : ∀ x, foldedSetIterable iter X.env x = pure x := by intro _; rfl) : MS X B (.For tg iter body [] pos) (wFor ti g tb) := psImp (ps_for hp hc hi hg hb hs) fun D σ H h => for_go h

/-! ### while: by a word of the turns left -/
def wWhile (c : TTm) (tb : TSm) : TSm := fun E ρ m => ∃ W : Nat → StM → Mem → Prop, (∃ n, W n ρ m) ∧ ∀ n ρ m, W n ρ m →
  c ρ m fun b m1 => if b = true then tb { E with nx := fun ρ' m' => ∃ n', n' < n ∧ W n' ρ' m', ct := fun ρ' m' => ∃ n', n' < n ∧ W n' ρ' m', bk := E.nx } ρ m1 else E.nx ρ m1
theorem ms_while {c : TTm} {tb : TSm} (hp : PassesOwn (model X.prog X.w) X.A X.env X.xe) (hc : MT X B e c) (hb : MSs X B body tb) : MS X B (.While e body [] pos) (wWhile c tb) := psImp (ps_while hp hc hb) fun D σ H ⟨ρ, m, E, A, q, n, rt, bk, ct⟩ => by
  obtain ⟨W, ⟨n0, w0⟩, turn⟩ := q
  refine ⟨fun k σ' H' => ∃ ρ' m', At X.K B σ' H' ρ' m' ∧ Step m H m' H' ∧ W k ρ' m', ⟨n0, ρ, m, A, Step.refl, w0⟩, ?_⟩
  rintro k σ' H' ⟨ρ', m', A', t', w'⟩
  refine ⟨ρ', m', _, A', turn k ρ' m' w', fun d m2 H2 q2 r2 t2 => ?_⟩
  have t02 := t'.trans t2
  cases d with
  | false => simp only [Bool.false_eq_true, if_false] at q2 ⊢; exact n _ _ _ _ q2 r2 t02 (A'.step r2 t2).s
  | true =>
    simp only [if_true] at q2 ⊢
    refine ⟨fun σ3 H3 => ∃ k', k' < k ∧ ∃ ρ' m', At X.K B σ3 H3 ρ' m' ∧ Step m H m' H3 ∧ W k' ρ' m', fun σ3 H3 ⟨k', lt, z⟩ => ⟨k', lt, z⟩, ?_⟩
    refine ⟨ρ', m2, _, A'.step r2 t2, q2, ?_, fun d m4 v H4 q4 r4 t4 x4 => rt d m4 v H4 q4 r4 (t02.trans t4) x4, n.trans t02, ?_⟩
    · intro ρ4 m4 σ4 H4 ⟨n', lt, q4⟩ r4 t4 s4
      exact ⟨n', lt, ρ4, m4, (A'.step r2 t2).step' r4 t4 s4, t02.trans t4, q4⟩
    · intro ρ4 m4 σ4 H4 ⟨n', lt, q4⟩ r4 t4 s4
      exact ⟨n', lt, ρ4, m4, (A'.step r2 t2).step' r4 t4 s4, t02.trans t4, q4⟩

/-! ### comprehensions -/
def MTs (X : Cx) (B : Bs) (ifs : List Expr) (t : TTm) : Prop := PTs X ifs (uT X.K B t)
def wYes : TTm := fun _ m Q => Q true m
theorem mts_nil : MTs X B [] wYes := ⟨fun pins s σ H Q I ⟨ρ, m, Qm, A, q, k⟩ => pts_nil.run pins s σ H Q I (k _ _ _ q A.r Step.refl)⟩
theorem mts_one (h : MT X B c tc) : MTs X B [c] tc := pts_one h
def lcC (chk : Mem → Prop) (g : TGm) (tt : TTm) (te : TEm) (vs : List Nat) (ρ : StM) (Q : List D → Mem → Prop) : List D → List D → Mem → Prop
  | [], acc, m => chk m ∧ Q acc m
  | d :: r, acc, m => chk m ∧ g d (wipeM ρ vs) m fun ρ2 m2 => wipeM ρ2 vs = wipeM ρ vs ∧ tt ρ2 m2 fun b m3 => if b = true then te ρ2 m3 fun y m4 => acc.length < sizeLine ∧ lcC chk g tt te vs ρ Q r (acc ++ [y]) m4 else lcC chk g tt te vs ρ Q r acc m3
theorem lcC.chk {chk : Mem → Prop} {g : TGm} {tt : TTm} {te : TEm} {vs : List Nat} {ρ : StM} {Q : List D → Mem → Prop} {ds acc : List D} {m : Mem} (h : lcC chk g tt te vs ρ Q ds acc m) : chk m := by
  cases ds with
  | nil => exact h.1
  | cons d r => exact h.1
/-- the names of a target, forgotten again -/
structure GOk (K : PySem.W.Frag) (B : Bs) (g : TGm) (g0 : TG) (vs : List Nat) : Prop where
  go : ∀ d v ρ σ m H (Qm : StM → Mem → Prop), Rep K H d v → At K B σ H ρ m → g d ρ m Qm → ∀ (Q : St → Hp → Prop), (∀ ρ' m' σ' H', Qm ρ' m' → RM K H' m' → Step m H m' H' → Ss K H' ρ' σ' → wipe σ' vs = wipe σ vs → Q σ' H') → g0 v σ H Q
theorem wipe_cons {σ : St} {v : Nat} {vs : List Nat} : wipe σ (v :: vs) = (wipe σ vs).set v none := rfl
theorem wipe_set {σ : St} {i : Nat} {o : Option V} : ∀ {vs : List Nat}, i ∈ vs → wipe (σ.set i o) vs = wipe σ vs
  | [], h => by simp at h
  | v :: vs, h => by
    rw [wipe_cons, wipe_cons]
    by_cases hi : i ∈ vs
    · rw [wipe_set hi]
    · have e : i = v := by simpa [hi] using h
      subst e
      have z : ∀ ws : List Nat, i ∉ ws → wipe (σ.set i o) ws = (wipe σ ws).set i o := by
        intro ws
        induction ws with
        | nil => intro _; rfl
        | cons w ws ih =>
          intro hn
          rw [wipe_cons, wipe_cons]
          rw [ih (fun z => hn (List.mem_cons_of_mem _ z)), List.set_comm]
          rintro rfl; exact hn List.mem_cons_self
      rw [z vs hi, List.set_set]
theorem gok_name {K : PySem.W.Frag} {i : Nat} {vs : List Nat} (h : i ∈ vs) : GOk K B (gN i) (gName i) vs := ⟨fun d v ρ σ m H Qm x A q Q k => k _ _ _ _ q A.r Step.refl (Ss.set x i A.s) (wipe_set h)⟩
structure GsOk (K : PySem.W.Frag) (B : Bs) (g : TGsm) (g0 : TGs) (vs : List Nat) : Prop where
  go : ∀ d v ρ σ m H (Qm : StM → Mem → Prop), Reps K H d v → At K B σ H ρ m → g d ρ m Qm → ∀ (Q : St → Hp → Prop), (∀ ρ' m' σ' H', Qm ρ' m' → RM K H' m' → Step m H m' H' → Ss K H' ρ' σ' → wipe σ' vs = wipe σ vs → Q σ' H') → g0 v σ H Q
theorem gsok_nil {K : PySem.W.Frag} {vs : List Nat} : GsOk K B gNils gNil vs := ⟨fun d v ρ σ m H Qm x A ⟨e, q⟩ Q k => by subst e; exact ⟨Reps.nil_iff.mp x, k _ _ _ _ q A.r Step.refl A.s rfl⟩⟩
theorem gsok_cons {K : PySem.W.Frag} {vs : List Nat} {g : TGm} {g0 : TG} {h : TGsm} {h0 : TGs} (a : GOk K B g g0 vs) (b : GsOk K B h h0 vs) : GsOk K B (gConss g h) (gCons g0 h0) vs := ⟨fun d v ρ σ m H Qm x A q Q k => by
  unfold gConss at q
  split at q
  · rename_i d r
    obtain ⟨v, w, e, x1, x2⟩ := Reps.cons_iff.mp x
    refine ⟨v, w, e, a.go _ _ _ _ _ _ _ x1 A q _ fun ρ1 m1 σ1 H1 q1 r1 t1 s1 w1 => ?_⟩
    exact b.go _ _ _ _ _ _ _ (x2.stay (t1.tups A.r)) (A.step' r1 t1 s1) q1 _ fun ρ2 m2 σ2 H2 q2 r2 t2 s2 w2 => k _ _ _ _ q2 r2 (t1.trans t2) s2 (w2.trans w1)
  · exact q.elim⟩
theorem gok_tup {K : PySem.W.Frag} {n : Nat} {vs : List Nat} {h : TGsm} {h0 : TGs} (b : GsOk K B h h0 vs) : GOk K B (gTupM n h) (gTup K n h0) vs := ⟨fun d v ρ σ m H Qm x A q Q k => by
  unfold gTupM at q
  split at q
  · obtain ⟨a, xs, e, s, r⟩ := Rep.tup_iff.mp x
    exact ⟨a, xs, e, s.sq, by rw [← r.length]; exact q.1, b.go _ _ _ _ _ _ _ r A q.2 _ k⟩
  · exact q.elim⟩
def wLc (ti : TIm) (g : TGm) (tt : TTm) (te : TEm) (vs : List Nat) : TEm := fun ρ m Q => ti ρ m fun ds chk m1 => lcC chk g tt te vs ρ (fun acc m' => newO (.lst acc) m' Q) ds [] m1
theorem lc_gen {K : PySem.W.Frag} {ti : TIm} {g : TGm} {g0 : TG} {tt : TTm} {te : TEm} {vs : List Nat} {σ : St} {H : Hp} {Q : VK} {ρ : StM} {m : Mem} {QA : List D → Mem → Prop} (hg : GOk K B g g0 vs) (A : At K B σ H ρ m)
    (q : ti ρ m fun ds chk m1 => lcC chk g tt te vs ρ QA ds [] m1) (k : ∀ acc m' L H', QA acc m' → m' L = none → RM K H' (mput m' L (.lst acc)) → Step m H (mput m' L (.lst acc)) H' → (∃ xs, H' L = some (.lst xs)) → Q (.ref L) H') : tLc (uI K B ti) g0 (uT K B tt) (uE K B te) vs σ H Q := by
  refine ⟨ρ, m, _, A, q, fun ds chk m1 H1 J q1 r1 t1 gd => ?_⟩
  intro L hL
  have hL1 : m1 L = none := r1.out hL
  -- at each turn: the list at L, hidden
  refine ⟨fun i mm H' => mm = ds.length - i ∧ i ≤ ds.length ∧ ∃ m' acc xs, RM K H' m' ∧ Step m1 H1 m' H' ∧ Nm m' L ∧ H' L = some (.lst xs) ∧ Reps K H' acc xs ∧ lcC chk g tt te vs ρ QA (ds.drop i) acc m',
    ⟨ds.length, by simp, Nat.zero_le _, m1, [], [], r1.hid hL, Step.hid r1 hL, .inl hL1, upd_same, Reps.nil, by simpa using q1⟩, ?_⟩
  rintro i mm H' ⟨rfl, hi, m', acc, xs, r', t', nL, eL, ra, q'⟩
  have G := gd i m' H' t' r' q'.chk
  by_cases hlt : i < ds.length
  · refine .inr ?_
    have e : ds[i]? = some ds[i] := by simp [hlt]
    obtain ⟨go, yl⟩ := G.1 _ e
    rw [List.drop_eq_getElem_cons hlt] at q'
    refine ⟨go, fun H2 => ∃ m' acc xs, RM K H2 m' ∧ Step m1 H1 m' H2 ∧ Nm m' L ∧ H2 L = some (.lst xs) ∧ Reps K H2 acc xs ∧ lcC chk g tt te vs ρ QA (ds.drop (i + 1)) acc m', fun H2 z => ⟨ds.length - (i + 1), by omega, rfl, hlt, z⟩, fun x H2 y => ?_⟩
    obtain ⟨r2, t2, x2⟩ := yl x H2 y
    have A2 : At K B (wipe σ vs) H2 (wipeM ρ vs) m' := ⟨((A.s.wipe vs).stay (t1.tups A.r)).stay ((t'.trans t2).tups r1), r2, B.cl _ _ _ _ A.b (t1.trans (t'.trans t2))⟩
    refine hg.go _ _ _ _ _ _ _ x2 A2 q'.2 _ fun ρ3 m3 σ3 H3 ⟨wm, q3⟩ r3 t3 s3 w3 => ?_
    have ww : wipe (wipe σ vs) vs = wipe σ vs := by
      have z : ∀ (σ : St) (i : Nat) (ws : List Nat), i ∈ ws → (wipe σ ws).set i none = wipe σ ws := by
        intro σ i ws
        induction ws with
        | nil => intro h; simp at h
        | cons w ws ih =>
          intro h
          rw [wipe_cons]
          by_cases e : i = w
          · subst e; rw [List.set_set]
          · have : i ∈ ws := by simpa [e] using h
            rw [List.set_comm _ _ (Ne.symm e), ih this]
      have z2 : ∀ (ws us : List Nat), (∀ i ∈ ws, i ∈ us) → wipe (wipe σ us) ws = wipe σ us := by
        intro ws
        induction ws with
        | nil => intro us _; rfl
        | cons w ws ih =>
          intro us h
          rw [wipe_cons]
          rw [ih us (fun i hi => h i (List.mem_cons_of_mem _ hi)), z σ w us (h w List.mem_cons_self)]
      exact z2 vs vs fun _ h => h
    refine ⟨w3.trans ww, ρ3, m3, _, A2.step' r3 t3 s3, q3, fun bb m4 H4 q4 r4 t4 => ?_⟩
    have tA : Step m' H' m4 H4 := t2.trans (t3.trans t4)
    cases bb with
    | false =>
      simp only [Bool.false_eq_true, if_false] at q4 ⊢
      obtain ⟨e5, n5⟩ := tA L _ eL nL
      exact ⟨m4, acc, xs, r4, t'.trans tA, n5, e5, ra.stay (tA.tups r'), q4⟩
    | true =>
      simp only [if_true] at q4 ⊢
      refine ⟨ρ3, m4, _, (A2.step' r3 t3 s3).step r4 t4, q4, fun yd m5 yv H5 ⟨z5, q5⟩ r5 t5 x5 => ?_⟩
      have tB := tA.trans t5
      obtain ⟨e5, n5⟩ := tB L _ eL nL
      have ra5 := ra.stay (tB.tups r')
      have tC : Step m5 H5 m5 (upd H5 L (.lst (xs ++ [yv]))) → True := fun _ => trivial
      -- the hidden list is written
      have ts : TupS K H5 (upd H5 L (.lst (xs ++ [yv]))) := by
        have ne : ∀ a o, H5 a = some o → (∀ z, o ≠ .lst z) → upd H5 L (.lst (xs ++ [yv])) a = some o := fun a o h1 h2 => by
          rw [upd_ne]; exact h1
          rintro rfl; rw [e5] at h1; cases h1; exact h2 _ rfl
        intro a ys n hy
        rcases hy with hy | ⟨z, hy⟩
        · exact .inl (ne _ _ hy fun _ z => by cases z)
        · refine .inr ⟨z, ?_⟩
          rcases hy with (hy | ⟨ob, hy⟩) | hy
          · exact .inl (.inl (ne _ _ hy fun _ z => by cases z))
          · exact .inl (.inr ⟨ob, ne _ _ hy fun _ z => by cases z⟩)
          · exact .inr hy
      refine ⟨xs, e5, by rw [← ra5.length]; exact z5, m5, acc ++ [yd], xs ++ [yv], ?_, ?_, n5, upd_same, (ra5.append (Reps.cons x5 Reps.nil)).stay ts, q5⟩
      · intro a o ho
        obtain ⟨w, h1, h2⟩ := r5 a o ho
        have ne : a ≠ L := by
          rintro rfl
          rcases n5 with n5 | ⟨o', n5⟩
          · rw [n5] at ho; cases ho
          · rw [n5] at ho; cases ho
            obtain ⟨ob, v, e6, _⟩ := h2
            rw [e5] at h1; cases h1; cases e6
        exact ⟨w, by rw [upd_ne ne]; exact h1, h2.stay ts⟩
      · intro a w h1 n1
        have ne : a ≠ L := by rintro rfl; rw [hL] at h1; cases h1
        obtain ⟨h2, n2⟩ := (t'.trans tB) a w h1 n1
        exact ⟨by rw [upd_ne ne]; exact h2, n2⟩
  · have e : i = ds.length := by omega
    subst e
    rw [List.drop_length] at q'
    refine .inl ⟨G.2 (Nat.le_refl _), ?_⟩
    have mL : m' L = none := by
      rcases nL with h | ⟨o, h⟩
      · exact h
      · obtain ⟨w, h1, ob, v, e6, _⟩ := r' L _ h
        rw [eL] at h1; cases h1; cases e6
    refine k _ _ _ _ q'.2 mL ?_ ?_ ⟨_, eL⟩
    · intro a o ho
      by_cases ne : a = L
      · subst ne
        rw [mput_same] at ho; cases ho
        exact ⟨_, eL, xs, rfl, ra⟩
      · rw [mput_ne ne] at ho
        exact r' a o ho
    · intro a w h1 n1
      obtain ⟨h2, n2⟩ := t1 a w h1 n1
      have ne : a ≠ L := by rintro rfl; rw [hL] at h2; cases h2
      obtain ⟨h3, n3⟩ := t' a w h2 n2
      refine ⟨h3, ?_⟩
      rcases n3 with n3 | ⟨o, n3⟩
      · exact .inl (by rw [mput_ne ne]; exact n3)
      · exact .inr ⟨o, by rw [mput_ne ne]; exact n3⟩
theorem lc_go {K : PySem.W.Frag} {ti : TIm} {g : TGm} {g0 : TG} {tt : TTm} {te : TEm} {vs : List Nat} {σ : St} {H : Hp} {Q : VK} (hg : GOk K B g g0 vs) (h : uE K B (wLc ti g tt te vs) σ H Q) : tLc (uI K B ti) g0 (uT K B tt) (uE K B te) vs σ H Q := by
  obtain ⟨ρ, m, Qm, A, q, k⟩ := h
  exact lc_gen hg A q fun acc m' L H' qa mL r t _ => k _ _ _ _ (qa L mL) r t Rep.ref
theorem mx_lc {elt : Expr} {ifs : List Expr} {scope : Scope} {own : List (Str × Nat)} {ti : TIm} {g : TGm} {g0 : TG} {tt : TTm} {te : TEm} (hc : X.calm = true) (hN : X.N.Nodup) (hi : MI X B tg iter ti) (ok : BlkOk X.N X.env.scope scope own)
    (hg : ∀ (s : Shared) (H : Hp) (C : Addr) (cl : List (Str × Addr)) (fp : List Addr), PG (X.blk s H scope (compEnvC scope cl C X.env) fp) tg g0) (gk : GOk X.K B g g0 (own.map (·.2)))
    (ht : ∀ (s : Shared) (H : Hp) (C : Addr) (cl : List (Str × Addr)) (fp : List Addr), MTs (X.blk s H scope (compEnvC scope cl C X.env) fp) B ifs tt)
    (he : ∀ (s : Shared) (H : Hp) (C : Addr) (cl : List (Str × Addr)) (fp : List Addr), MX (X.blk s H scope (compEnvC scope cl C X.env) fp) B elt te) (hs : ∀ x, foldedSetIterable iter X.env x = pure x := by intro _; rfl) :
    MX X B (.ListComp elt [⟨tg, iter, ifs, 0⟩] scope pos) (wLc ti g tt te (own.map (·.2))) := peImp (pe_lc (tt := uT X.K B tt) (te := uE X.K B te) hc hN hi ok hg ht he hs) fun σ H Q h => lc_go gk h
theorem ms_setLc {i : Nat} {y : Str} {py : Pos} {spos : Pos} {elt : Expr} {ifs : List Expr} {scope : Scope} {own : List (Str × Nat)} {ti : TIm} {g : TGm} {g0 : TG} {tt : TTm} {te : TEm} (hc : X.calm = true) (hN : X.N.Nodup) (hy : X.N[i]? = some y) (hyl : X.env.scope.names.lookup y = some .local)
    (hsw : swapsWith (.ListComp elt [⟨tg, iter, ifs, 0⟩] scope pos) (some (.Name y py)) spos.line X.env = pure true) (hi : MI X B tg iter ti) (ok : BlkOk X.N X.env.scope scope own)
    (hg : ∀ (s : Shared) (H : Hp) (C : Addr) (cl : List (Str × Addr)) (fp : List Addr), PG (X.blk s H scope (compEnvC scope cl C X.env) fp) tg g0) (gk : GOk X.K B g g0 (own.map (·.2)))
    (ht : ∀ (s : Shared) (H : Hp) (C : Addr) (cl : List (Str × Addr)) (fp : List Addr), MTs (X.blk s H scope (compEnvC scope cl C X.env) fp) B ifs tt)
    (he : ∀ (s : Shared) (H : Hp) (C : Addr) (cl : List (Str × Addr)) (fp : List Addr), MX (X.blk s H scope (compEnvC scope cl C X.env) fp) B elt te) (hs : ∀ x, foldedSetIterable iter X.env x = pure x := by intro _; rfl) :
    MS X B (.Assign [.Name y py] (.ListComp elt [⟨tg, iter, ifs, 0⟩] scope pos) spos) (wSet i (wLc ti g tt te (own.map (·.2)))) := psImp (ps_setLc (tt := uT X.K B tt) (te := uE X.K B te) hc hN hy hyl hsw hi ok hg ht he hs) fun D σ H ⟨ρ, m, E, A, q, n, _⟩ =>
  lc_go gk ⟨ρ, m, _, A, q, fun d m1 v H1 q1 r1 t1 x1 => n _ _ _ _ q1 r1 t1 (Ss.set x1 i (A.s.stay (t1.tups A.r)))⟩
end
end Mm
namespace Mm
open PySem L2
open PyProof.Rows (envOfC)

/-! ### promises -/
abbrev XM := Addr → Mem → Prop
abbrev SpM := List D → Mem → KM → XM → Prop
def liftSp (K : PySem.W.Frag) (sp : SpM) : Sp := fun vs H Q E => ∃ ds m Qm Em, Reps K H ds vs ∧ RM K H m ∧ sp ds m Qm Em ∧
  (∀ d m' v H', Qm d m' → RM K H' m' → Step m H m' H' → Rep K H' d v → Q v H') ∧ ∀ C m' d H', Em C m' → RM K H' m' → Step m H m' H' → E (.ref C) d H'
abbrev FnM (P : Program) (w : World) (K : PySem.W.Frag) (mg : Str → Option Value) (base : Heap) (CX : CXT) (k : Nat) (f : Addr) (fd : FuncData) (ps : List Str) (sp : SpM) : Prop := FnOk P w K mg base CX k f fd ps (liftSp K sp)
/-- how an exception is wished for in a body -/
def uX (K : PySem.W.Frag) (B : Bs) (Em : XM) : XK := fun cls _ H' => ∃ C m', cls = .ref C ∧ Em C m' ∧ RM K H' m' ∧ B.P m' H'
def noX : XM := fun _ _ => False
def wCall (sp : SpM) (Em : XM) (t : TAm) : TEm := fun ρ m Q => t ρ m fun ds m1 => sp ds m1 Q Em
section
variable {X : Cx} {B : Bs} {e o : Expr} {es : List Expr} {pos p apos : Pos} {la : TAm} {pa : TEm} {CX : CXT} {k : Nat} {f C : Addr} {fd : FuncData} {ps : List Str} {sp : SpM} {Em : XM} {x n : Str}
theorem call_go {K : PySem.W.Frag} {σ : St} {H : Hp} {Q : VK} (h : uE K B (wCall sp Em la) σ H Q) : tCall (liftSp K sp) [] (uX K B Em) (uA K B la) σ H Q := by
  obtain ⟨ρ, m, Qm, A, q, k⟩ := h
  refine ⟨ρ, m, _, A, q, fun ds m1 vs H1 q1 r1 t1 x1 => ?_⟩
  show liftSp K sp (vs ++ []) H1 Q (uX K B Em)
  rw [List.append_nil]
  exact ⟨ds, m1, Qm, Em, x1, r1, q1, fun d m' v H' q2 r2 t2 x2 => k d m' v H' q2 r2 (t1.trans t2) x2, fun C m' d H' q2 r2 t2 => ⟨C, m', rfl, q2, r2, B.cl _ _ _ _ A.b (t1.trans t2)⟩⟩
theorem mx_call (F : FnM X.prog X.w X.K X.mg X.base CX k f fd ps sp) (hr : Room k X.A) (hm : X.mg x = some (.ref f)) (hk : PySem.W.keepIn X.K (.ref f) = true) (hb : Binds X.K fd ps []) (hx : Passes CX X (uX X.K B Em))
    (ha : MA X B (e :: es) la) (hg : Gl X x := by rfl) (hdb : (x == ("__debug__" : Str)) = false := by decide) (he : starEach (e :: es) X.env = (false, eval e X.env) :: starEach es X.env := by rfl) (hpl : (backTo pos (starEach es X.env)).any (·.1) = false := by rfl) :
    MX X B (.Call (.Name x p) (e :: es) [] pos) (wCall sp Em la) := peImp (pe_call F hr hg hm hk hb .nil hx ha hdb he hpl) fun σ H Q h => call_go h
theorem mx_call0 (F : FnM X.prog X.w X.K X.mg X.base CX k f fd ps sp) (hr : Room k X.A) (hm : X.mg x = some (.ref f)) (hk : PySem.W.keepIn X.K (.ref f) = true) (hb : Binds X.K fd ps []) (hx : Passes CX X (uX X.K B Em))
    (hg : Gl X x := by rfl) (hdb : (x == ("__debug__" : Str)) = false := by decide) :
    MX X B (.Call (.Name x p) [] [] pos) (wCall sp Em wNil) := peImp (pe_call0 F hr hg hm hk hb .nil hx hdb) fun σ H Q ⟨ρ, m, Qm, A, q, k⟩ => by
  exact ⟨[], m, Qm, Em, Reps.nil, A.r, q, k, fun C m' d H' q2 r2 t2 => ⟨C, m', rfl, q2, r2, B.cl _ _ _ _ A.b t2⟩⟩
theorem pass0M {X : Cx} {E : XK} : Passes CX0 X E := fun _ _ _ _ _ _ _ h => h.elim

/-! ### a def keeps its promise -/
def stepB (m : Mem) (H : Hp) : Bs := ⟨fun m' H' => Step m H m' H', fun _ _ _ _ a b => a.trans b⟩
def startM (N : List Str) (ds : List D) : StM := ds.map some ++ List.replicate (N.length - ds.length) none
theorem ss_start {K : PySem.W.Frag} {H : Hp} (N : List Str) : ∀ {ds : List D} {vs : List V}, Reps K H ds vs → Ss K H (startM N ds) (L2.start N vs) := by
  intro ds vs h
  have e := h.length
  unfold startM L2.start
  rw [e]
  generalize N.length - vs.length = n
  clear e
  induction ds generalizing vs with
  | nil =>
    rw [Reps.nil_iff.mp h]
    induction n with
    | zero => exact .nil
    | succ n ih => exact .cons trivial ih
  | cons d ds ih =>
    obtain ⟨v, r, e, x, y⟩ := Reps.cons_iff.mp h
    subst e
    exact .cons x (ih y)
/-- what is handed back: some of the memory may be forgotten -/
def RtM (Q : KM) : KM := fun d m' => ∃ m0, Sub m0 m' ∧ Q d m0
theorem RtM.mk {Q : KM} {d : D} {m : Mem} (h : Q d m) : RtM Q d m := ⟨m, Sub.refl, h⟩
theorem fn_m {P : Program} {w : World} {K : PySem.W.Frag} {mg : Str → Option Value} {base : Heap} {qual : Str} {st : Stmt} {N : List Str} (F : Fun K x qual st f fd) (S : FnScope N ps (defScope st)) (len : ∀ ds m Q E, sp ds m Q E → ds.length = ps.length)
    (hbody : ∀ (cdv : Value) (A : Around) (outer : List Env) (s : Shared) (H : Hp) (ds : List D) (m : Mem) (Q : KM) (E : XM) (E' : XK), Room k (A.deeper (envOfC qual (defScope st) s.heap.objs.size f cdv)) → sp ds m Q E →
      ∃ p, MSs (cxOf CX0 P w K mg base N qual (defScope st) f cdv A outer s H E').nox (stepB m H) (defBody st) p ∧ p { nx := fun _ m' => RtM Q .non m', rt := RtM Q } (startM N ds) m) : FnM P w K mg base CX0 (k + 1) f fd ps sp := by
  refine F.ok S (fun vs H Q E ⟨ds, m, Qm, Em, x, r, q, _⟩ => by rw [← x.length]; exact len _ _ _ _ q) fun cdv A outer s H vs Q E hr ⟨ds, m, Qm, Em, x, r, q, k1, k2⟩ => ?_
  obtain ⟨p, hp, go⟩ := hbody cdv A outer s H ds m Qm Em E hr q
  refine ⟨_, hp, startM N ds, m, _, ⟨ss_start N x, r, Step.refl⟩, go, ?_, ?_, ?_, ?_⟩
  · intro ρ' m' σ' H' ⟨m0, sb, q'⟩ r' t' s'
    exact k1 _ _ _ _ q' (r'.sub sb) (t'.sub sb) Rep.non
  · intro d m' v H' ⟨m0, sb, q'⟩ r' t' x'
    exact k1 _ _ _ _ q' (r'.sub sb) (t'.sub sb) x'
  · intro ρ' m' σ' H' z; exact z.elim
  · intro ρ' m' σ' H' z; exact z.elim
end

/-! ### dicts -/
def kD : Key → D
  | .inl i => .int i
  | .inr x => .str x
theorem kD_rep {K : PySem.W.Frag} {H : Hp} {k : Key} {v : V} (h : Rep K H (kD k) v) : v = kV k := by
  cases k with
  | inl i => exact Rep.int_iff.mp h
  | inr x => exact Rep.str_iff.mp h
theorem rep_kD {K : PySem.W.Frag} {H : Hp} {k : Key} : Rep K H (kD k) (kV k) := by
  cases k with
  | inl i => exact Rep.int
  | inr x => exact Rep.str
theorem kDs_rep {K : PySem.W.Frag} {H : Hp} : ∀ {ks : List Key} {vs : List V}, Reps K H (ks.map kD) vs → vs = ks.map kV
  | [], _, h => by rw [Reps.nil_iff.mp h]; rfl
  | k :: ks, _, h => by
    obtain ⟨v, r, e, x, y⟩ := Reps.cons_iff.mp h
    rw [e, kD_rep x, kDs_rep y]; rfl
theorem reps_kDs {K : PySem.W.Frag} {H : Hp} : ∀ {ks : List Key}, Reps K H (ks.map kD) (ks.map kV)
  | [] => Reps.nil
  | k :: ks => Reps.cons rep_kD reps_kDs
section
variable {κ : Type} [DecidableEq κ]
def valD (kvs : List (κ × D)) (k : κ) : Option D := (kvs.find? fun kv => decide (kv.1 = k)).map (·.2)
def putD (kvs : List (κ × D)) (k : κ) (v : D) : List (κ × D) :=
  if (kvs.any fun kv => decide (kv.1 = k)) = true then kvs.map (fun kv => if kv.1 = k then (kv.1, v) else kv) else kvs ++ [(k, v)]
variable {K : PySem.W.Frag} {H : Hp}
theorem KVs.val {k : κ} : ∀ {a : List (κ × D)} {b : List (κ × V)}, KVs K H a b → (∀ d, valD a k = some d → ∃ v, valV b k = some v ∧ Rep K H d v) ∧ (valD a k = none → valV b k = none)
  | _, _, .nil => ⟨fun d e => by simp [valD] at e, fun _ => rfl⟩
  | _, _, .cons (a := p) (b := q) (l₁ := as) h r => by
    obtain ⟨i1, i2⟩ := KVs.val (k := k) r
    by_cases e : p.1 = k
    · have e' : q.1 = k := h.1 ▸ e
      refine ⟨fun d z => ?_, fun z => ?_⟩
      · simp [valD, List.find?_cons, e] at z
        subst z
        exact ⟨q.2, valV_pos e', h.2⟩
      · simp [valD, List.find?_cons, e] at z
    · have e' : ¬ q.1 = k := fun z => e (h.1.trans z)
      have z : valD (p :: as) k = valD as k := by simp [valD, List.find?_cons, e]
      rw [z, valV_neg e']
      exact ⟨i1, i2⟩
theorem KVs.length : ∀ {a : List (κ × D)} {b : List (κ × V)}, KVs K H a b → a.length = b.length
  | _, _, .nil => rfl
  | _, _, .cons h r => by simp [KVs.length r]
theorem KVs.put {k : κ} {d : D} {v : V} (hd : Rep K H d v) {a : List (κ × D)} {b : List (κ × V)} (h : KVs K H a b) : KVs K H (putD a k d) (putK b k v) := by
  have e1 : (a.any fun kv => decide (kv.1 = k)) = (b.any fun kv => decide (kv.1 = k)) := by
    induction h with
    | nil => rfl
    | cons h r ih => simp only [List.any_cons, h.1, ih]
  unfold putD putK
  rw [e1]
  split
  · rename_i hh
    clear e1 hh
    induction h with
    | nil => exact .nil
    | @cons p q as bs h r ih =>
      refine .cons ?_ ih
      by_cases e : p.1 = k
      · have e' : q.1 = k := h.1 ▸ e
        simp only [if_pos e, if_pos e']; exact ⟨h.1, hd⟩
      · have e' : ¬ q.1 = k := fun z => e (h.1.trans z)
        simp only [if_neg e, if_neg e']; exact h
  · rename_i hh
    clear e1 hh
    induction h with
    | nil => exact .cons ⟨rfl, hd⟩ .nil
    | cons h r ih => exact .cons h ih
end
/-- what the dict (an object) holds at the datum y -/
def getO (o : O) (y : D) (r : Option D) : Prop := match o with
  | .dK kvs => ∃ k, y = kD k ∧ r = valD kvs k
  | .dT kvs => ∃ ks : List Key, y = .tup (ks.map kD) ∧ ks.length ≠ 1 ∧ ks.length ≠ 5 ∧ r = valD kvs ks
  | _ => False
/-- the object behind a store -/
def putO (o : O) (y d : D) (o' : O) : Prop := match o with
  | .dK kvs => ∃ k, y = kD k ∧ kvs.length < sizeLine ∧ o' = .dK (putD kvs k d)
  | .dT kvs => ∃ ks : List Key, y = .tup (ks.map kD) ∧ ks.length ≠ 1 ∧ ks.length ≠ 5 ∧ kvs.length < sizeLine ∧ o' = .dT (putD kvs ks d)
  | _ => False
section
variable {K : PySem.W.Frag} {H : Hp} {m : Mem} {a : Addr} {o o' : O} {y d : D} {v z : V}
theorem tup_at {ks : List Key} (h : Rep K H (.tup (ks.map kD)) v) (h1 : ks.length ≠ 1) (h5 : ks.length ≠ 5) : ∃ b, v = .ref b ∧ H b = some (.tup (ks.map kV)) := by
  obtain ⟨b, xs, e, t, r⟩ := Rep.tup_iff.mp h
  rw [kDs_rep r] at t
  rcases t with t | ⟨n, _⟩
  · exact ⟨b, e, t⟩
  · rw [List.length_map] at n
    omega
theorem get_go {r : Option D} (rm : RM K H m) (e : rdM m a = some o) (g : getO o y r) (hy : Rep K H y v) : ∃ r', DGet H a v r' ∧ (∀ d, r = some d → ∃ w, r' = some w ∧ Rep K H d w) ∧ (r = none → r' = none) := by
  obtain ⟨u, h1, h2⟩ := rd_go rm e
  unfold getO at g
  split at g
  · obtain ⟨k, rfl, rfl⟩ := g
    obtain ⟨xs, rfl, kv⟩ := h2
    exact ⟨valV xs k, .inl ⟨xs, k, h1, kD_rep hy, rfl⟩, kv.val.1, kv.val.2⟩
  · obtain ⟨ks, rfl, n1, n5, rfl⟩ := g
    obtain ⟨xs, rfl, kv⟩ := h2
    obtain ⟨b, e1, e2⟩ := tup_at hy n1 n5
    exact ⟨valV xs ks, .inr ⟨xs, ks, b, h1, e1, e2, rfl⟩, kv.val.1, kv.val.2⟩
  · exact g.elim
theorem put_go (rm : RM K H m) (e : m a = some o) (g : putO o y d o') (hy : Rep K H y v) (hd : Rep K H d z) : ∃ u, DPut H a v z (upd H a u) ∧ RM K (upd H a u) (mput m a o') ∧ Step m H (mput m a o') (upd H a u) := by
  obtain ⟨u, h1, h2⟩ := rm a o e
  unfold putO at g
  split at g
  · obtain ⟨k, rfl, n, rfl⟩ := g
    obtain ⟨xs, rfl, kv⟩ := h2
    exact ⟨.dK (putK xs k z), .inl ⟨xs, k, h1, kD_rep hy, by rw [← kv.length]; exact n, rfl⟩, rm.put e trivial ⟨_, rfl, kv.put hd⟩, Step.put rm e trivial⟩
  · obtain ⟨ks, rfl, n1, n5, n, rfl⟩ := g
    obtain ⟨xs, rfl, kv⟩ := h2
    obtain ⟨b, e1, e2⟩ := tup_at hy n1 n5
    exact ⟨.dT (putK xs ks z), .inr ⟨xs, ks, b, h1, e1, e2, by rw [← kv.length]; exact n, rfl⟩, rm.put e trivial ⟨_, rfl, kv.put hd⟩, Step.put rm e trivial⟩
  · exact g.elim
end
section
variable {X : Cx} {B : Bs} {o i e f value : Expr} {st : Stmt} {pos pos' apos cpos : Pos} {pa pb pc : TEm}
/-- d[y] -/
def wGet : R2m := fun x y m Q => match x with
  | .ref a => ∃ o d, rdM m a = some o ∧ getO o y (some d) ∧ Q d m
  | _ => False
theorem mx_dget (hu : X.A.units + 1 < cLine) (ho : MX X B o pa) (hi : MX X B i pb) (hs : NoSl i := by exact fun _ _ => rfl) : MX X B (.Subscript o i pos) (wBin wGet pa pb) := peImp (pe_dget hu ho hi hs) fun σ H Q ⟨ρ, m, Qm, A, q, k⟩ => by
  refine ⟨ρ, m, _, A, q, fun x m1 v H1 q1 r1 t1 x1 => ?_⟩
  refine ⟨ρ, m1, _, A.step r1 t1, q1, fun y m2 w H2 q2 r2 t2 x2 => ?_⟩
  unfold wGet at q2
  split at q2
  · obtain ⟨ob, d, e1, g, q2⟩ := q2
    obtain ⟨r', g', h1, _⟩ := get_go r2 e1 g x2
    obtain ⟨w', e2, x3⟩ := h1 d rfl
    subst e2
    exact ⟨_, w', Rep.ref_iff.mp x1, g', k _ _ _ _ q2 r2 (t1.trans t2) x3⟩
  · exact q2.elim
def wDIn (neg : Bool) : R2m := fun y x m Q => match x with
  | .ref a => ∃ o r, rdM m a = some o ∧ getO o y r ∧ Q (.bl (if neg then !r.isSome else r.isSome)) m
  | _ => False
theorem din_go {neg : Bool} {y x : D} {m : Mem} {H : Hp} {v w : V} {Qm : KM} {Q : VK} {m0 : Mem} {H0 : Hp} (hy : Rep X.K H y v) (hx : Rep X.K H x w) (r : RM X.K H m) (q : wDIn neg y x m Qm) (t : Step m0 H0 m H) (k : ∀ d m' v H', Qm d m' → RM X.K H' m' → Step m0 H0 m' H' → Rep X.K H' d v → Q v H') :
    ∃ a o, w = .ref a ∧ DGet H a v o ∧ Q (.bl (if neg then !o.isSome else o.isSome)) H := by
  unfold wDIn at q
  split at q
  · obtain ⟨ob, ro, e1, g, q⟩ := q
    obtain ⟨r', g', h1, h2⟩ := get_go r e1 g hy
    have e : r'.isSome = ro.isSome := by
      cases ro with
      | none => rw [h2 rfl]; rfl
      | some d => obtain ⟨w', e2, _⟩ := h1 d rfl; rw [e2]; rfl
    exact ⟨_, r', Rep.ref_iff.mp hx, g', by rw [e]; exact k _ _ _ _ q r t Rep.bl⟩
  · exact q.elim
theorem pcDin {t : TE} {op : CmpOp} {a b : Expr} (h : PC X op a b t) {t' : TE} (i : ∀ σ H Q, t' σ H Q → t σ H Q) : PC X op a b t' := ⟨fun pins s σ H Q I q => h.run pins s σ H Q I (i _ _ _ q)⟩
theorem pc_in (hu : X.A.units + 1 < cLine) (hi : MX X B i pa) (ho : MX X B o pb) : PC X .In i o (uE X.K B (wBin (wDIn false) pa pb)) := pcDin (pc_din hu hi ho) fun σ H Q ⟨ρ, m, Qm, A, q, k⟩ => by
  refine ⟨ρ, m, _, A, q, fun y m1 v H1 q1 r1 t1 x1 => ⟨ρ, m1, _, A.step r1 t1, q1, fun x m2 w H2 q2 r2 t2 x2 => ?_⟩⟩
  exact din_go (x1.stay (t2.tups r1)) x2 r2 q2 (t1.trans t2) k
theorem pc_notin (hu : X.A.units + 1 < cLine) (hi : MX X B i pa) (ho : MX X B o pb) : PC X .NotIn i o (uE X.K B (wBin (wDIn true) pa pb)) := pcDin (pc_dnotin hu hi ho) fun σ H Q ⟨ρ, m, Qm, A, q, k⟩ => by
  refine ⟨ρ, m, _, A, q, fun y m1 v H1 q1 r1 t1 x1 => ⟨ρ, m1, _, A.step r1 t1, q1, fun x m2 w H2 q2 r2 t2 x2 => ?_⟩⟩
  exact din_go (neg := true) (x1.stay (t2.tups r1)) x2 r2 q2 (t1.trans t2) k
theorem mx_din (hu : X.A.units + 1 < cLine) (hi : MX X B i pa) (ho : MX X B o pb) (h1 : behindInMarks .In o = false := by rfl) : MX X B (.Compare i [.In] [o] pos) (wBin (wDIn false) pa pb) := pe_cmp (pc_in hu hi ho) h1
theorem mx_dnotin (hu : X.A.units + 1 < cLine) (hi : MX X B i pa) (ho : MX X B o pb) (h1 : behindInMarks .NotIn o = false := by rfl) : MX X B (.Compare i [.NotIn] [o] pos) (wBin (wDIn true) pa pb) := pe_cmp (pc_notin hu hi ho) h1
theorem tB_go {p : TEm} {σ : St} {H : Hp} {Q : Bool → Hp → Prop} (h : uT X.K B (wTest p) σ H Q) : tB (uE X.K B p) σ H Q := test_go (fun _ _ _ q => q) h
theorem mt_din (hu : X.A.units + 1 < cLine) (hi : MX X B i pa) (ho : MX X B o pb) (h1 : behindInMarks .In o = false := by rfl) : MT X B (.Compare i [.In] [o] pos) (wTest (wBin (wDIn false) pa pb)) := ptImp (pt_cmp (pc_in hu hi ho) h1) fun σ H Q h => tB_go h
theorem mt_dnotin (hu : X.A.units + 1 < cLine) (hi : MX X B i pa) (ho : MX X B o pb) (h1 : behindInMarks .NotIn o = false := by rfl) : MT X B (.Compare i [.NotIn] [o] pos) (wTest (wBin (wDIn true) pa pb)) := ptImp (pt_cmp (pc_notin hu hi ho) h1) fun σ H Q h => tB_go h
/-- d.get(y, z) -/
def isDO : O → Prop
  | .dK _ => True
  | .dT _ => True
  | _ => False
def wGet2 (pa pb pc : TEm) : TEm := fun ρ m Q => pa ρ m fun x m1 => refAt x fun a => (∃ o, rdM m1 a = some o ∧ isDO o) ∧ pb ρ m1 fun y m2 => pc ρ m2 fun z m3 => ∃ o r, rdM m3 a = some o ∧ getO o y r ∧ Q (r.getD z) m3
theorem mx_get2 (hu : X.A.units + 1 < cLine) (ho : MX X B o pa) (he : MX X B e pb) (hf : MX X B f pc) (M : M2 X o "get" apos e f cpos := by exact ⟨rfl, rfl, rfl, rfl⟩) : MX X B (.Call (.Attribute o "get" apos) [e, f] [] cpos) (wGet2 pa pb pc) := peImp (pe_dget2 hu ho he hf M) fun σ H Q ⟨ρ, m, Qm, A, q, k⟩ => by
  refine ⟨ρ, m, _, A, q, fun x m1 v H1 q1 r1 t1 x1 => ?_⟩
  unfold refAt at q1
  split at q1
  · rename_i a0
    obtain ⟨⟨ob, e0, hd⟩, q1⟩ := q1
    have isd : IsD H1 a0 := by
      obtain ⟨u, h1, h2⟩ := rd_go r1 e0
      unfold isDO at hd
      split at hd
      · obtain ⟨xs, rfl, _⟩ := h2; exact .inl ⟨xs, h1⟩
      · obtain ⟨xs, rfl, _⟩ := h2; exact .inr ⟨xs, h1⟩
      · exact hd.elim
    refine ⟨_, Rep.ref_iff.mp x1, isd, ρ, m1, _, A.step r1 t1, q1, fun y m2 w H2 q2 r2 t2 x2 => ?_⟩
    refine ⟨ρ, m2, _, (A.step r1 t1).step r2 t2, q2, fun z m3 u H3 q3 r3 t3 x3 => ?_⟩
    obtain ⟨ob, ro, e1, g, q3⟩ := q3
    obtain ⟨r', g', h1, h2⟩ := get_go r3 e1 g (x2.stay (t3.tups r2))
    refine ⟨r', g', ?_⟩
    have tt := t1.trans (t2.trans t3)
    cases ro with
    | none => rw [h2 rfl]; exact k _ _ _ _ q3 r3 tt x3
    | some d => obtain ⟨w', e2, x4⟩ := h1 d rfl; rw [e2]; exact k _ _ _ _ q3 r3 tt x4
  · exact q1.elim
/-- d[y] = v -/
def wPut (pa pb pc : TEm) : TSm := fun E ρ m => pc ρ m fun z m1 => pa ρ m1 fun x m2 => pb ρ m2 fun y m3 => refAt x fun a => ∃ o o', m3 a = some o ∧ putO o y z o' ∧ E.nx ρ (mput m3 a o')
theorem ms_dput (hu : X.A.units + 1 < cLine) (ho : MX X B o pa) (hi : MX X B i pb) (hv : MX X B value pc) (hs : swapsWith value (some (.Subscript o i pos')) pos.line X.env = pure false := by rfl) : MS X B (.Assign [.Subscript o i pos'] value pos) (wPut pa pb pc) :=
  psImp (ps_dput hu ho hi hv hs) fun D σ H ⟨ρ, m, E, A, q, n, _⟩ => by
  refine ⟨ρ, m, _, A, q, fun z m1 u H1 q1 r1 t1 x1 => ?_⟩
  refine ⟨ρ, m1, _, A.step r1 t1, q1, fun x m2 v H2 q2 r2 t2 x2 => ?_⟩
  refine ⟨ρ, m2, _, (A.step r1 t1).step r2 t2, q2, fun y m3 w H3 q3 r3 t3 x3 => ?_⟩
  have t23 := t2.trans t3
  unfold refAt at q3
  split at q3
  · obtain ⟨ob, ob', e1, g, q3⟩ := q3
    obtain ⟨uo, dp, rm, st⟩ := put_go r3 e1 g x3 (x1.stay (t23.tups r1))
    have t4 := t1.trans (t23.trans st)
    exact ⟨_, _, Rep.ref_iff.mp x2, dp, n _ _ _ _ q3 rm t4 (A.step rm t4).s⟩
  · exact q3.elim
theorem mx_dnewK : MX X B (.Dict [] [] pos) (fun _ m Q => newO (.dK []) m Q) := peImp pe_dnewK fun σ H Q ⟨ρ, m, Qm, A, q, k⟩ => new_go q A.r Step.refl ⟨[], rfl, .nil⟩ k
theorem mx_dnewT : MX X B (.Dict [] [] pos) (fun _ m Q => newO (.dT []) m Q) := peImp pe_dnewT fun σ H Q ⟨ρ, m, Qm, A, q, k⟩ => new_go q A.r Step.refl ⟨[], rfl, .nil⟩ k
end
end Mm
namespace Mm
open PySem L2
open PyProof.Rows (envOfC)

theorem hu1 {A : Around} {k : Nat} (hr : Room k A) : A.units + 1 < cLine := hu_of hr
theorem hu64 {A : Around} {k : Nat} (hr : Room k A) : A.units + 64 < cLine := hr.units
theorem hu65 {A : Around} {k : Nat} (hr : Room k A) : A.units + 65 < cLine := by have := hr.un; omega
section
variable {X : Cx} {B : Bs} {e a b c o i value : Expr} {es : List Expr} {pos pos' apos cpos : Pos} {pa pb pc : TEm} {la : TAm}

/-! ### a[b]: tuple, list, text, dict -/
def wSub : R2m := fun x y m Q => match x with
  | .tup ds => match y with
    | .int i => ∃ d, atI ds i = some d ∧ Q d m
    | _ => False
  | .str z => match y with
    | .int i => z.length ≤ sizeLine ∧ ∃ c, atI z.cps.toList i = some c ∧ Q (.str ⟨#[c]⟩) m
    | _ => False
  | .ref a => ∃ o, rdM m a = some o ∧ match o with
    | .lst ds => ∃ i d, y = .int i ∧ atI ds i = some d ∧ Q d m
    | o => ∃ d, getO o y (some d) ∧ Q d m
  | _ => False
def rDG : R2 := fun x y H Q => ∃ a v, x = .ref a ∧ DGet H a y (some v) ∧ Q v H
theorem ix_dict (hu : X.A.units + 1 < cLine) : IxR X rDG := by
  intro value slice pins s σ H x y v u Q I rx ry h hs
  obtain ⟨a, w, rfl, g, q⟩ := h
  obtain rfl : v = Value.ref a := rx
  exact PyProof.Rows.tail_any (dict_typeIs I g) PySem.F.slot_dict_getitem.lookup (d_getItem hu I g ry fun w' s3 I3 rw' => ⟨w, H, I3, rw', q⟩) hs
theorem mi_sub {k : Nat} (hr : Room k X.A) : MIx X wSub := mix_of (ix_seq.or (ix_dict (hu1 hr))) fun x y v w H m Q Qm hx hy r q k => by
  unfold wSub at q
  split at q
  · split at q
    · obtain ⟨d, e, q⟩ := q
      obtain ⟨a, xs, e1, s, rr⟩ := Rep.tup_iff.mp hx
      obtain ⟨v', e2, x2⟩ := atI_rep rr e
      exact .inl (.inr (.inl ⟨a, xs, _, v', e1, Rep.int_iff.mp hy, s.sq, e2, k _ _ _ _ q r Step.refl x2⟩))
    · exact q.elim
  · split at q
    · obtain ⟨z, c, e, q⟩ := q
      exact .inl (.inr (.inr ⟨_, _, c, Rep.str_iff.mp hx, Rep.int_iff.mp hy, z, e, k _ _ _ _ q r Step.refl Rep.str⟩))
    · exact q.elim
  · obtain ⟨o, e0, q⟩ := q
    split at q
    · obtain ⟨i, d, e3, e, q⟩ := q
      subst e3
      obtain ⟨xs, s, rr⟩ := rd_lst r e0
      obtain ⟨v', e2, x2⟩ := atI_rep rr e
      exact .inl (.inl ⟨_, xs, _, v', Rep.ref_iff.mp hx, Rep.int_iff.mp hy, s, e2, k _ _ _ _ q r Step.refl x2⟩)
    · obtain ⟨d, g, q⟩ := q
      obtain ⟨r', g', h1, _⟩ := get_go r e0 g hy
      obtain ⟨w', e2, x3⟩ := h1 d rfl
      subst e2
      exact .inr ⟨_, w', Rep.ref_iff.mp hx, g', k _ _ _ _ q r Step.refl x3⟩
  · exact q.elim

/-! ### a + b: ints, texts, tuples, lists -/
def wPlus : R2m := fun x y m Q => match x, y with
  | .int i, .int j => Q (.int (i + j)) m
  | .str i, .str j => i.length + j.length ≤ sizeLine ∧ Q (.str (i ++ j)) m
  | .tup ds, .tup es => ds.length + es.length ≤ sizeLine ∧ Q (.tup (ds ++ es)) m
  | .ref a, .ref b => ∃ ds es, m a = some (.lst ds) ∧ m b = some (.lst es) ∧ ds.length + es.length ≤ sizeLine ∧ newO (.lst (ds ++ es)) m Q
  | _, _ => False
theorem mo_plus : MOp X (binaryOp .Add) wPlus := mop_of (OpR.or op_add (OpR.or op_add_str (OpR.or op_catA op_cat))) fun x y v w H m Q Qm hx hy r q k => by
  unfold wPlus at q
  split at q
  · exact .inl ⟨_, _, Rep.int_iff.mp hx, Rep.int_iff.mp hy, k _ _ _ _ q r Step.refl Rep.int⟩
  · exact .inr (.inl ⟨_, _, Rep.str_iff.mp hx, Rep.str_iff.mp hy, q.1, k _ _ _ _ q.2 r Step.refl Rep.str⟩)
  · rename_i ds es
    obtain ⟨a, xs, e1, s1, r1⟩ := Rep.tup_iff.mp hx
    obtain ⟨b, ys, e2, s2, r2⟩ := Rep.tup_iff.mp hy
    have h1 := r1.length
    have h2 := r2.length
    refine .inr (.inr (.inl ⟨a, b, xs, ys, e1, e2, s1.sq, s2.sq, by rw [← h1, ← h2]; exact q.1, fun z => ?_, fun z1 z2 => ?_, fun z1 z2 p hp => ?_⟩))
    · subst z
      have : ds = [] := by cases ds with | nil => rfl | cons _ _ => simp at h1
      subst this
      exact k _ _ _ _ q.2 r Step.refl (by rw [← e2]; exact hy)
    · subst z2
      have : es = [] := by cases es with | nil => rfl | cons _ _ => simp at h2
      subst this
      exact k _ _ _ _ q.2 r Step.refl (by rw [List.append_nil, ← e1]; exact hx)
    · exact k _ _ _ _ q.2 (r.hid hp) (Step.hid r hp) (Rep.tup_iff.mpr ⟨p, _, rfl, TupAt.of upd_same, (r1.append r2).stay ((Step.hid (u := .tup (xs ++ ys)) r hp).tups r)⟩)
  · obtain ⟨ds, es, e1, e2, z, q⟩ := q
    obtain ⟨u1, h1, xs, rfl, r1⟩ := r _ _ e1
    obtain ⟨u2, h2, ys, rfl, r2⟩ := r _ _ e2
    exact .inr (.inr (.inr ⟨_, _, xs, ys, Rep.ref_iff.mp hx, Rep.ref_iff.mp hy, h1, h2, by rw [← r1.length, ← r2.length]; exact z, new_go q r Step.refl ⟨_, rfl, r1.append r2⟩ k⟩))
  · exact q.elim

/-! ### a * b: ints (below a million bits), a text and an int -/
def wTimes : R2m := fun x y m Q => match x, y with
  | .int i, .int j => (CMul i j ∨ CMulW i j) ∧ Q (.int (i * j)) m
  | .str s, .int n => MulOk s n ∧ Q (.str (Txt.mul s n)) m
  | _, _ => False
theorem op_mulS : OpR X (binaryOp .Mult) (fun x y H Q => ∃ s n, x = .str s ∧ y = .int n ∧ MulOk s n ∧ Q (.str (Txt.mul s n)) H) := by
  intro pins s σ H x y v u Q I rx ry h
  obtain ⟨z, n, rfl, rfl, ok, q⟩ := h
  obtain ⟨t, rfl⟩ := rx
  obtain ⟨t', rfl⟩ := ry
  exact PySem.SB.mul ok fun t'' k => ⟨.str _, H, I.tok _, ⟨_, rfl⟩, q⟩
theorem mo_times : MOp X (binaryOp .Mult) wTimes := mop_of (OpR.or op_mul (OpR.or op_mulW op_mulS)) fun x y v w H m Q Qm hx hy r q k => by
  unfold wTimes at q
  split at q
  · rcases q.1 with z | z
    · exact .inl ⟨_, _, Rep.int_iff.mp hx, Rep.int_iff.mp hy, z, k _ _ _ _ q.2 r Step.refl Rep.int⟩
    · exact .inr (.inl ⟨_, _, Rep.int_iff.mp hx, Rep.int_iff.mp hy, z, k _ _ _ _ q.2 r Step.refl Rep.int⟩)
  · exact .inr (.inr ⟨_, _, Rep.str_iff.mp hx, Rep.int_iff.mp hy, q.1, k _ _ _ _ q.2 r Step.refl Rep.str⟩)
  · exact q.elim

/-! ### deep equality: a datum as it is read in a memory -/
mutual
inductive Vw (m : Mem) : D → PyData → Prop
  | non : Vw m .non .none
  | bl (b : Bool) : Vw m (.bl b) (.bool b)
  | int (i : Int) : Vw m (.int i) (.int i)
  | str (x : Str) : Vw m (.str x) (.str x)
  | tup {ds : List D} {ts : List PyData} : VwA m ds ts → Vw m (.tup ds) (.tuple ts)
  | lst {a : Addr} {ds : List D} {ts : List PyData} : rdM m a = some (.lst ds) → VwA m ds ts → Vw m (.ref a) (.list ts)
inductive VwA (m : Mem) : List D → List PyData → Prop
  | nil : VwA m [] []
  | cons {d : D} {ds : List D} {t : PyData} {ts : List PyData} : Vw m d t → VwA m ds ts → VwA m (d :: ds) (t :: ts)
end
mutual
theorem Vw.dp {K : PySem.W.Frag} {H : Hp} {m : Mem} (r : RM K H m) : ∀ (t : PyData) (d : D) (v : V), Vw m d t → Rep K H d v → Dp K H v t
  | .none, _, _, h, x => by cases h; rw [Rep.non_iff.mp x]; exact .non
  | .bool b, _, _, h, x => by cases h; rw [Rep.bl_iff.mp x]; exact .bl b
  | .int i, _, _, h, x => by cases h; rw [Rep.int_iff.mp x]; exact .int i
  | .str z, _, _, h, x => by cases h; rw [Rep.str_iff.mp x]; exact .str z
  | .tuple ts, _, _, h, x => by
    cases h with
    | tup h =>
      obtain ⟨a, xs, rfl, s, rr⟩ := Rep.tup_iff.mp x
      exact .tup s.sq (VwA.dp r ts _ _ h rr)
  | .list ts, _, _, h, x => by
    cases h with
    | lst e h =>
      obtain ⟨xs, s, rr⟩ := rd_lst r e
      rw [Rep.ref_iff.mp x]
      exact .lst s (VwA.dp r ts _ _ h rr)
  | .dict _, _, _, h, _ => by cases h
theorem VwA.dp {K : PySem.W.Frag} {H : Hp} {m : Mem} (r : RM K H m) : ∀ (ts : List PyData) (ds : List D) (vs : List V), VwA m ds ts → Reps K H ds vs → DpAll K H vs ts
  | [], _, _, h, x => by cases h; rw [Reps.nil_iff.mp x]; exact .nil
  | t :: ts, _, _, h, x => by
    cases h with
    | cons h1 h2 =>
      obtain ⟨v, w, rfl, y, z⟩ := Reps.cons_iff.mp x
      exact .cons (Vw.dp r t _ _ h1 y) (VwA.dp r ts _ _ h2 z)
end
/-- two dicts of the same flat things under the same keys -/
def SameD (m : Mem) (a b : Addr) : Prop := ∃ ks ls : List (Key × D), m a = some (.dK ks) ∧ m b = some (.dK ls) ∧ ks.length = ls.length ∧ ∀ p ∈ ks, valD ls p.1 = some p.2 ∧ ((∃ i, p.2 = .int i) ∨ ∃ x, p.2 = .str x)
/-- x == y gives k -/
def EqB (m : Mem) (x y : D) (k : Bool) : Prop :=
  scD x y = some k ∨ (∃ t u, Vw m x t ∧ Vw m y u ∧ SeqAt.shaped t = true ∧ SeqAt.shaped u = true ∧ k = PyData.eqv t u) ∨ (k = true ∧ ∃ a b, x = .ref a ∧ y = .ref b ∧ SameD m a b)
theorem kvs_same {K : PySem.W.Frag} {H : Hp} {m : Mem} {a b : Addr} (r : RM K H m) (h : SameD m a b) : ∃ ks ls, H a = some (.dK ks) ∧ H b = some (.dK ls) ∧ ks.length = ls.length ∧ ∀ p ∈ ks, valV ls p.1 = some p.2 ∧ flatB p.2 = true := by
  obtain ⟨ks, ls, e1, e2, hl, h⟩ := h
  obtain ⟨u1, h1, xs, rfl, r1⟩ := r _ _ e1
  obtain ⟨u2, h2, ys, rfl, r2⟩ := r _ _ e2
  refine ⟨xs, ys, h1, h2, by rw [← r1.length, ← r2.length]; exact hl, ?_⟩
  clear e1 hl h1
  induction r1 with
  | nil => intro p hp; simp at hp
  | @cons p q ps qs z zs ih =>
    intro p' hp'
    rcases List.mem_cons.mp hp' with e | hm
    · subst e
      obtain ⟨v1, v2⟩ := h p List.mem_cons_self
      obtain ⟨w, hw, rw'⟩ := r2.val.1 _ v1
      have e3 : w = p'.2 := by
        have z2 := z.2
        rcases v2 with ⟨i, e⟩ | ⟨x, e⟩
        · rw [e] at z2 rw'; rw [Rep.int_iff.mp z2, Rep.int_iff.mp rw']
        · rw [e] at z2 rw'; rw [Rep.str_iff.mp z2, Rep.str_iff.mp rw']
      refine ⟨by rw [← z.1, hw, e3], ?_⟩
      have z2 := z.2
      rcases v2 with ⟨i, e⟩ | ⟨x, e⟩
      · rw [e] at z2; rw [Rep.int_iff.mp z2]; rfl
      · rw [e] at z2; rw [Rep.str_iff.mp z2]; rfl
    · exact ih (fun p hp => h p (List.mem_cons_of_mem _ hp)) p' hm
def wEqq : R2m := fun x y m Q => ∃ k, EqB m x y k ∧ Q (.bl k) m
def wNeq : R2m := fun x y m Q => ∃ k, EqB m x y k ∧ Q (.bl (!k)) m
theorem mo_eqq {k : Nat} (hr : Room k X.A) : MOp X (compareOp .Eq) wEqq := mop_of (OpR.or op_eq (OpR.or (op_eqD (hu64 hr)) (op_eq_dictA (hr.units0)))) fun x y v w H m Q Qm hx hy r q k => by
  obtain ⟨b, h, q⟩ := q
  have fin := k _ _ _ _ q r Step.refl Rep.bl
  rcases h with h | ⟨t, u, h1, h2, s1, s2, e⟩ | ⟨e, a, c, rfl, rfl, h⟩
  · obtain ⟨z1, z2⟩ := scD_of hx hy h
    exact .inl ⟨z1, by rw [z2]; exact fin⟩
  · exact .inr (.inl ⟨t, u, h1.dp r _ _ _ hx, h2.dp r _ _ _ hy, s1, s2, by rw [← e]; exact fin⟩)
  · subst e
    obtain ⟨ks, ls, z1, z2, z3, z4⟩ := kvs_same r h
    exact .inr (.inr ⟨_, _, ks, ls, Rep.ref_iff.mp hx, Rep.ref_iff.mp hy, z1, z2, z3, z4, fin⟩)
theorem mo_neq {k : Nat} (hr : Room k X.A) : MOp X (compareOp .NotEq) wNeq := mop_of (OpR.or op_ne (OpR.or (op_neD (hu64 hr)) (op_ne_dictA (hr.units0)))) fun x y v w H m Q Qm hx hy r q k => by
  obtain ⟨b, h, q⟩ := q
  have fin := k _ _ _ _ q r Step.refl Rep.bl
  rcases h with h | ⟨t, u, h1, h2, s1, s2, e⟩ | ⟨e, a, c, rfl, rfl, h⟩
  · obtain ⟨z1, z2⟩ := scD_of hx hy h
    exact .inl ⟨z1, by rw [z2]; exact fin⟩
  · exact .inr (.inl ⟨t, u, h1.dp r _ _ _ hx, h2.dp r _ _ _ hy, s1, s2, by rw [← e]; exact fin⟩)
  · subst e
    obtain ⟨ks, ls, z1, z2, z3, z4⟩ := kvs_same r h
    exact .inr (.inr ⟨_, _, ks, ls, Rep.ref_iff.mp hx, Rep.ref_iff.mp hy, z1, z2, z3, z4, fin⟩)

/-! ### built-ins -/
def wMax2 : RLm := fun ds m Q => match ds with
  | [.int i, .int j] => Q (.int (if j > i then j else i)) m
  | _ => False
def wMin2 : RLm := fun ds m Q => match ds with
  | [.int i, .int j] => Q (.int (if j < i then j else i)) m
  | _ => False
theorem mc_max2 (hc : X.calm = true := by rfl) : MCall X (.builtin "max") wMax2 := mcall_of (call_max2 hc) fun ds vs H m Q Qm hx r q k => by
  unfold wMax2 at q; split at q
  · obtain ⟨v, w, e, x, y⟩ := reps2 hx
    rw [Rep.int_iff.mp x, Rep.int_iff.mp y] at e
    exact ⟨_, _, e, k _ _ _ _ q r Step.refl Rep.int⟩
  · exact q.elim
theorem mc_min2 (hc : X.calm = true := by rfl) : MCall X (.builtin "min") wMin2 := mcall_of (call_min2 hc) fun ds vs H m Q Qm hx r q k => by
  unfold wMin2 at q; split at q
  · obtain ⟨v, w, e, x, y⟩ := reps2 hx
    rw [Rep.int_iff.mp x, Rep.int_iff.mp y] at e
    exact ⟨_, _, e, k _ _ _ _ q r Step.refl Rep.int⟩
  · exact q.elim
def wAbs : RLm := fun ds m Q => match ds with
  | [.int i] => Q (.int (if i < 0 then -i else i)) m
  | _ => False
theorem mc_abs1 : MCall X (.builtin "abs") wAbs := mcall_of call_abs fun ds vs H m Q Qm hx r q k => by
  unfold wAbs at q; split at q
  · obtain ⟨v, e, x⟩ := reps1 hx
    rw [Rep.int_iff.mp x] at e
    exact ⟨_, e, k _ _ _ _ q r Step.refl Rep.int⟩
  · exact q.elim
def wInt1 : RLm := fun ds m Q => match ds with
  | [.int i] => Q (.int i) m
  | [.bl b] => Q (.int (if b then 1 else 0)) m
  | _ => False
theorem mc_int1 : MCall X (.type "int") wInt1 := mcall_of call_int1 fun ds vs H m Q Qm hx r q k => by
  unfold wInt1 at q; split at q
  · obtain ⟨v, e, x⟩ := reps1 hx
    rw [Rep.int_iff.mp x] at e
    exact .inl ⟨_, e, k _ _ _ _ q r Step.refl Rep.int⟩
  · obtain ⟨v, e, x⟩ := reps1 hx
    rw [Rep.bl_iff.mp x] at e
    exact .inr ⟨_, e, k _ _ _ _ q r Step.refl Rep.int⟩
  · exact q.elim
def wLen1 : RLm := fun ds m Q => match ds with
  | [.str z] => z.length ≤ sizeLine ∧ Q (.int z.length) m
  | [.tup ds] => Q (.int ds.length) m
  | [.ref a] => (∃ ds, rdM m a = some (.lst ds) ∧ Q (.int ds.length) m) ∨ ∃ kvs, m a = some (.dK kvs) ∧ Q (.int kvs.length) m
  | _ => False
theorem mc_len1 : MCall X (.builtin "len") wLen1 := mcall_of (CallR.or call_len call_lenD) fun ds vs H m Q Qm hx r q k => by
  unfold wLen1 at q; split at q
  · obtain ⟨v, e, x⟩ := reps1 hx
    rw [Rep.str_iff.mp x] at e
    exact .inl ⟨_, _, e, ⟨q.1, rfl⟩, k _ _ _ _ q.2 r Step.refl Rep.int⟩
  · obtain ⟨v, e, x⟩ := reps1 hx
    obtain ⟨a, xs, e1, s, rr⟩ := Rep.tup_iff.mp x
    exact .inl ⟨.ref a, _, by rw [e, e1], Or.inr ⟨xs, s.sq, rr.length⟩, k _ _ _ _ q r Step.refl Rep.int⟩
  · obtain ⟨v, e, x⟩ := reps1 hx
    rw [Rep.ref_iff.mp x] at e
    rcases q with ⟨ds, e1, q⟩ | ⟨kvs, e1, q⟩
    · obtain ⟨xs, s, rr⟩ := rd_lst r e1
      exact .inl ⟨.ref _, _, e, Or.inl ⟨xs, s, rr.length⟩, k _ _ _ _ q r Step.refl Rep.int⟩
    · obtain ⟨u, h1, xs, rfl, rr⟩ := r _ _ e1
      exact .inr ⟨_, xs, e, h1, by rw [← rr.length]; exact k _ _ _ _ q r Step.refl Rep.int⟩
  · exact q.elim
/-- list(x): a list, a tuple, a dict's keys -/
def wList1 : RLm := fun ds m Q => match ds with
  | [.tup ds] => newO (.lst ds) m Q
  | [.ref a] => (∃ ds, rdM m a = some (.lst ds) ∧ newO (.lst ds) m Q) ∨ ∃ kvs, m a = some (.dK kvs) ∧ newO (.lst (kvs.map fun p => kD p.1)) m Q
  | _ => False
theorem mc_list1 (hc : X.calm = true := by rfl) : MCall X (.type "list") wList1 := mcall_of (CallR.or call_list_of (call_list_dK hc)) fun ds vs H m Q Qm hx r q k => by
  unfold wList1 at q; split at q
  · obtain ⟨v, e, x⟩ := reps1 hx
    obtain ⟨a, xs, e1, s, rr⟩ := Rep.tup_iff.mp x
    exact .inl ⟨_, _, by rw [e, e1], .inr s.sq, new_go q r Step.refl ⟨_, rfl, rr⟩ k⟩
  · obtain ⟨v, e, x⟩ := reps1 hx
    rw [Rep.ref_iff.mp x] at e
    rcases q with ⟨ds, e1, q⟩ | ⟨kvs, e1, q⟩
    · obtain ⟨xs, s, rr⟩ := rd_lst r e1
      exact .inl ⟨_, _, e, .inl s, new_go q r Step.refl ⟨_, rfl, rr⟩ k⟩
    · obtain ⟨u, h1, xs, rfl, rr⟩ := r _ _ e1
      refine .inr ⟨_, xs, e, h1, new_go q r Step.refl ⟨_, rfl, ?_⟩ k⟩
      clear e1 q h1
      induction rr with
      | nil => exact Reps.nil
      | cons h _ ih => exact Reps.cons (by show Rep X.K H (kD _) (kV _); rw [h.1]; exact rep_kD) ih
  · exact q.elim
/-- tuple(x): a list, a tuple -/
def wTuple1 : RLm := fun ds m Q => match ds with
  | [.tup ds] => Q (.tup ds) m
  | [.ref a] => ∃ ds, rdM m a = some (.lst ds) ∧ Q (.tup ds) m
  | _ => False
theorem mc_tuple1 : MCall X (.type "tuple") wTuple1 := mcall_of call_tuple_of fun ds vs H m Q Qm hx r q k => by
  unfold wTuple1 at q; split at q
  · obtain ⟨v, e, x⟩ := reps1 hx
    obtain ⟨a, xs, e1, s, rr⟩ := Rep.tup_iff.mp x
    exact ⟨_, _, by rw [e, e1], .inr ⟨s.sq, k _ _ _ _ q r Step.refl (by rw [← e1]; exact x)⟩⟩
  · obtain ⟨v, e, x⟩ := reps1 hx
    rw [Rep.ref_iff.mp x] at e
    obtain ⟨ds, e1, q⟩ := q
    obtain ⟨xs, s, rr⟩ := rd_lst r e1
    exact ⟨_, _, e, .inl ⟨s, fun l hl => k _ _ _ _ q (r.hid hl) (Step.hid r hl) (Rep.tup_iff.mpr ⟨l, _, rfl, TupAt.of upd_same, rr.stay ((Step.hid (u := .tup xs) r hl).tups r)⟩)⟩⟩
  · exact q.elim
theorem reps_bls {K : PySem.W.Frag} {H : Hp} : ∀ {bs : List Bool} {vs : List V}, Reps K H (bs.map .bl) vs → vs = bs.map .bl
  | [], _, h => by rw [Reps.nil_iff.mp h]; rfl
  | k :: ks, _, h => by
    obtain ⟨v, r, e, x, y⟩ := Reps.cons_iff.mp h
    rw [e, Rep.bl_iff.mp x, reps_bls y]; rfl
theorem reps_intsV {K : PySem.W.Frag} {H : Hp} : ∀ {bs : List Int} {vs : List V}, Reps K H (bs.map .int) vs → vs = bs.map .int
  | [], _, h => by rw [Reps.nil_iff.mp h]; rfl
  | k :: ks, _, h => by
    obtain ⟨v, r, e, x, y⟩ := Reps.cons_iff.mp h
    rw [e, Rep.int_iff.mp x, reps_intsV y]; rfl
def wAll1 : RLm := fun ds m Q => match ds with
  | [.ref a] => ∃ bs : List Bool, rdM m a = some (.lst (bs.map .bl)) ∧ Q (.bl (bs.all id)) m
  | _ => False
theorem mc_all1 (hc : X.calm = true := by rfl) : MCall X (.builtin "all") wAll1 := mcall_of (cr_all hc) fun ds vs H m Q Qm hx r q k => by
  unfold wAll1 at q; split at q
  · obtain ⟨v, e, x⟩ := reps1 hx
    rw [Rep.ref_iff.mp x] at e
    obtain ⟨bs, e1, q⟩ := q
    obtain ⟨xs, s, rr⟩ := rd_lst r e1
    rw [reps_bls rr] at s
    exact ⟨_, bs, e, s, k _ _ _ _ q r Step.refl Rep.bl⟩
  · exact q.elim
def wSum1 : RLm := fun ds m Q => match ds with
  | [.ref a] => ∃ ns : List Int, rdM m a = some (.lst (ns.map .int)) ∧ Q (.int ns.sum) m
  | _ => False
theorem mc_sum1 (hc : X.calm = true := by rfl) : MCall X (.builtin "sum") wSum1 := mcall_of (cr_sum hc) fun ds vs H m Q Qm hx r q k => by
  unfold wSum1 at q; split at q
  · obtain ⟨v, e, x⟩ := reps1 hx
    rw [Rep.ref_iff.mp x] at e
    obtain ⟨bs, e1, q⟩ := q
    obtain ⟨xs, s, rr⟩ := rd_lst r e1
    rw [reps_intsV rr] at s
    exact ⟨_, bs, e, s, k _ _ _ _ q r Step.refl Rep.int⟩
  · exact q.elim
def wMaxL : RLm := fun ds m Q => match ds with
  | [.ref a] => ∃ ns : List Int, rdM m a = some (.lst (ns.map .int)) ∧ 0 < ns.length ∧ ∀ n, n ∈ ns → (∀ y, y ∈ ns → y ≤ n) → Q (.int n) m
  | _ => False
theorem mc_max1 (hc : X.calm = true := by rfl) : MCall X (.builtin "max") wMaxL := mcall_of (cr_max hc) fun ds vs H m Q Qm hx r q k => by
  unfold wMaxL at q; split at q
  · obtain ⟨v, e, x⟩ := reps1 hx
    rw [Rep.ref_iff.mp x] at e
    obtain ⟨bs, e1, n, q⟩ := q
    obtain ⟨xs, s, rr⟩ := rd_lst r e1
    rw [reps_intsV rr] at s
    exact ⟨_, bs, e, s, n, fun z h1 h2 => k _ _ _ _ (q z h1 h2) r Step.refl Rep.int⟩
  · exact q.elim
def wMinL : RLm := fun ds m Q => match ds with
  | [.ref a] => ∃ ns : List Int, rdM m a = some (.lst (ns.map .int)) ∧ 0 < ns.length ∧ ∀ n, n ∈ ns → (∀ y, y ∈ ns → n ≤ y) → Q (.int n) m
  | _ => False
theorem mc_min1 (hc : X.calm = true := by rfl) : MCall X (.builtin "min") wMinL := mcall_of (cr_min hc) fun ds vs H m Q Qm hx r q k => by
  unfold wMinL at q; split at q
  · obtain ⟨v, e, x⟩ := reps1 hx
    rw [Rep.ref_iff.mp x] at e
    obtain ⟨bs, e1, n, q⟩ := q
    obtain ⟨xs, s, rr⟩ := rd_lst r e1
    rw [reps_intsV rr] at s
    exact ⟨_, bs, e, s, n, fun z h1 h2 => k _ _ _ _ (q z h1 h2) r Step.refl Rep.int⟩
  · exact q.elim

/-! ### isinstance of a built-in type -/
def tyD (m : Mem) : D → Option String
  | .non => some "NoneType"
  | .bl _ => some "bool"
  | .int _ => some "int"
  | .str _ => some "str"
  | .tup _ => some "tuple"
  | .ref a => match m a with
    | some (.lst _) => some "list"
    | some (.dK _) => some "dict"
    | some (.dT _) => some "dict"
    | some (.frz (.lst _)) => some "list"
    | _ => none
  | _ => none
/-- isinstance(x, T) -/
def isiB (t T : String) : Bool := t == T || (t == "bool" && T == "int")
def tys : List String := ["NoneType", "bool", "int", "str", "tuple", "list", "dict"]
theorem kit_tys : (tys.all fun t => tys.all fun T => kitB t T == some (isiB t T)) = true := by decide +kernel
theorem kit_of_tys {t T : String} (h : t ∈ tys) (h' : T ∈ tys) : kitB t T = some (isiB t T) := by
  have := List.all_eq_true.mp (List.all_eq_true.mp kit_tys t h) T h'
  exact eq_of_beq this
theorem tyX_of {K : PySem.W.Frag} {H : Hp} {m : Mem} {d : D} {v : V} {t : String} (r : RM K H m) (x : Rep K H d v) (h : tyD m d = some t) : TyX K H v (.type t) ∧ t ∈ tys := by
  unfold tyD at h
  split at h
  · cases h; rw [Rep.non_iff.mp x]; exact ⟨.base .non, by decide⟩
  · cases h; rw [Rep.bl_iff.mp x]; exact ⟨.base (.bl _), by decide⟩
  · cases h; rw [Rep.int_iff.mp x]; exact ⟨.base (.int _), by decide⟩
  · cases h; rw [Rep.str_iff.mp x]; exact ⟨.base (.str _), by decide⟩
  · cases h
    obtain ⟨a, xs, rfl, s, rr⟩ := Rep.tup_iff.mp x
    refine ⟨?_, by decide⟩
    rcases s.sq with (s | ⟨ob, s⟩) | ⟨o, its, n, s, hc, _⟩
    · exact .base (.tup s)
    · exact .fTuple s
    · exact .kTuple s hc
  · rw [Rep.ref_iff.mp x]
    split at h
    · rename_i e; cases h; obtain ⟨u, h1, xs, rfl, _⟩ := r _ _ e; exact ⟨.base (.lst h1), by decide⟩
    · rename_i e; cases h; obtain ⟨u, h1, xs, rfl, _⟩ := r _ _ e; exact ⟨.base (.dK h1), by decide⟩
    · rename_i e; cases h; obtain ⟨u, h1, xs, rfl, _⟩ := r _ _ e; exact ⟨.base (.dT h1), by decide⟩
    · rename_i e; cases h; obtain ⟨u, h1, ob, w, rfl, xs, rfl, _⟩ := r _ _ e; exact ⟨.base (.frz h1), by decide⟩
    · cases h
  · cases h
def wIsi : RLm := fun ds m Q => match ds with
  | [x, .ty T] => ∃ t, tyD m x = some t ∧ T ∈ tys ∧ Q (.bl (isiB t T)) m
  | _ => False
theorem mc_isinstance2 : MCall X (.builtin "isinstance") wIsi := mcall_of call_isi fun ds vs H m Q Qm hx r q k => by
  unfold wIsi at q; split at q
  · obtain ⟨v, w, e, x, y⟩ := reps2 hx
    rw [Rep.ty_iff.mp y] at e
    obtain ⟨t, h1, h2, q⟩ := q
    obtain ⟨z1, z2⟩ := tyX_of r x h1
    exact ⟨v, _, _, _, _, e, ClsV.ty _, z1, kit_ty (kit_of_tys z2 h2), k _ _ _ _ q r Step.refl Rep.bl⟩
  · exact q.elim
/-- a built-in type as a value -/
theorem mx_ty {x : Str} {T : String} (hm : X.mg x = none) (hg : Gl X x := by rfl) (hv : bootBuiltins x = some (.type T) := by decide +kernel) (hn : x ≠ "__name__" := by decide) (hd : (x == ("__debug__" : Str)) = false := by decide) : MX X B (.Name x pos) (wC (.ty T)) :=
  mxC (v := .ty T) (pe_bltn hg hm hv rfl hn hd) fun _ => Rep.ty

/-! ### methods of lists -/
def wApp (pa pb : TEm) : TEm := fun ρ m Q => pa ρ m fun x m1 => refAt x fun a => (∃ ds, rdM m1 a = some (.lst ds)) ∧ pb ρ m1 fun y m2 => ∃ ds, m2 a = some (.lst ds) ∧ ds.length < sizeLine ∧ Q .non (mput m2 a (.lst (ds ++ [y])))
theorem list_ty {K : PySem.W.Frag} {H : Hp} {a : Addr} {m : Mem} (r : RM K H m) (h : ∃ ds, rdM m a = some (.lst ds)) : tyV K "list" (.ref a) H := by
  obtain ⟨ds, e⟩ := h
  obtain ⟨xs, s, _⟩ := rd_lst r e
  exact .inl ⟨rfl, xs, s⟩
theorem mx_append (ho : MX X B o pa) (he : MX X B e pb) (hbase : attributeBase o "append" X.env (eval o X.env) = eval o X.env := by rfl)
    (hfew : ((backTo cpos (starEach (e :: []) X.env)).all (fun x => !x.1) && (backToKw cpos (keywordEach [] X.env)).all (fun x => x.1.isSome)
      && decide ((e :: ([] : List Expr)).length + ([] : List Keyword).length + (if ([] : List Keyword).isEmpty then 0 else 1) < 30)) = true := by rfl)
    (hline : (apos.endLine == cpos.line) = true := by rfl) (hs : starEach (e :: []) X.env = (false, eval e X.env) :: starEach [] X.env := by rfl) (hplain : (backTo cpos (starEach [] X.env)).any (·.1) = false := by rfl) :
    MX X B (.Call (.Attribute o "append" apos) [e] [] cpos) (wApp pa pb) :=
  peImp (pe_bm PySem.F.plainAttrs_list PySem.F.slot_list_append PySem.F.type_list_append mt_append ho (pa_cons he pa_nil hs) hbase hfew hline hs hplain) fun σ H Q ⟨ρ, m, Qm, A, q, k⟩ => by
    refine ⟨ρ, m, _, A, q, fun x m1 v H1 q1 r1 t1 x1 => ?_⟩
    unfold refAt at q1
    split at q1
    · obtain ⟨tl, q1⟩ := q1
      rw [Rep.ref_iff.mp x1]
      refine ⟨list_ty r1 tl, ρ, m1, _, A.step r1 t1, q1, fun y m2 w H2 q2 r2 t2 x2 => ?_⟩
      obtain ⟨ds, e1, z, q2⟩ := q2
      obtain ⟨u, h1, xs, rfl, rr⟩ := r2 _ _ e1
      refine ⟨_, xs, w, rfl, rfl, h1, by rw [← rr.length]; exact z, ?_⟩
      exact k _ _ _ _ q2 (r2.put e1 trivial ⟨_, rfl, rr.append (Reps.cons x2 Reps.nil)⟩) (t1.trans (t2.trans (Step.put r2 e1 trivial))) Rep.non
    · exact q1.elim
def wExt (pa pb : TEm) : TEm := fun ρ m Q => pa ρ m fun x m1 => refAt x fun a => (∃ ds, rdM m1 a = some (.lst ds)) ∧ pb ρ m1 fun y m2 => ∃ ds b es, y = .ref b ∧ m2 a = some (.lst ds) ∧ m2 b = some (.lst es) ∧ ds.length + es.length ≤ sizeLine ∧ Q .non (mput m2 a (.lst (ds ++ es)))
theorem mx_extend (ho : MX X B o pa) (he : MX X B e pb) (hbase : attributeBase o "extend" X.env (eval o X.env) = eval o X.env := by rfl)
    (hfew : ((backTo cpos (starEach (e :: []) X.env)).all (fun x => !x.1) && (backToKw cpos (keywordEach [] X.env)).all (fun x => x.1.isSome)
      && decide ((e :: ([] : List Expr)).length + ([] : List Keyword).length + (if ([] : List Keyword).isEmpty then 0 else 1) < 30)) = true := by rfl)
    (hline : (apos.endLine == cpos.line) = true := by rfl) (hs : starEach (e :: []) X.env = (false, eval e X.env) :: starEach [] X.env := by rfl) (hplain : (backTo cpos (starEach [] X.env)).any (·.1) = false := by rfl) :
    MX X B (.Call (.Attribute o "extend" apos) [e] [] cpos) (wExt pa pb) :=
  peImp (pe_bm PySem.F.plainAttrs_list PySem.F.slot_list_extend PySem.F.type_list_extend mt_extend ho (pa_cons he pa_nil hs) hbase hfew hline hs hplain) fun σ H Q ⟨ρ, m, Qm, A, q, k⟩ => by
    refine ⟨ρ, m, _, A, q, fun x m1 v H1 q1 r1 t1 x1 => ?_⟩
    unfold refAt at q1
    split at q1
    · obtain ⟨tl, q1⟩ := q1
      rw [Rep.ref_iff.mp x1]
      refine ⟨list_ty r1 tl, ρ, m1, _, A.step r1 t1, q1, fun y m2 w H2 q2 r2 t2 x2 => ?_⟩
      obtain ⟨ds, b, es, rfl, e1, e2, z, q2⟩ := q2
      obtain ⟨u, h1, xs, rfl, rr⟩ := r2 _ _ e1
      obtain ⟨u', h2, ys, rfl, rs⟩ := r2 _ _ e2
      refine ⟨_, b, xs, ys, rfl, by rw [Rep.ref_iff.mp x2], h1, h2, by rw [← rr.length, ← rs.length]; exact z, ?_⟩
      exact k _ _ _ _ q2 (r2.put e1 trivial ⟨_, rfl, rr.append rs⟩) (t1.trans (t2.trans (Step.put r2 e1 trivial))) Rep.non
    · exact q1.elim
end
end Mm
namespace Mm
open PySem L2
open PyProof.Rows (envOfC)

/-! ### texts that are written: when two are one -/
theorem ofString_inj {a b : String} : (Str.ofString a = Str.ofString b) = (a = b) := by
  apply propext
  refine ⟨fun h => ?_, fun h => by rw [h]⟩
  have h1 : (cpsOfBytes 0 0 a.toByteArray.data.toList).toArray = (cpsOfBytes 0 0 b.toByteArray.data.toList).toArray := Str.mk.inj h
  have h2 : a.toList.map Char.toNat = b.toList.map Char.toNat := by
    have := congrArg Array.toList h1
    simp only [cpsOfBytes_string] at this
    exact this
  have inj : ∀ c d : Char, c.toNat = d.toNat → c = d := fun c d e => Char.ext (UInt32.toNat_inj.mp e)
  have h3 : ∀ l k : List Char, l.map Char.toNat = k.map Char.toNat → l = k := by
    intro l
    induction l with
    | nil => intro k h; cases k with
      | nil => rfl
      | cons _ _ => simp at h
    | cons c l ih => intro k h; cases k with
      | nil => simp at h
      | cons d k =>
        simp only [List.map_cons, List.cons.injEq] at h
        rw [inj c d h.1, ih k h.2]
  exact String.toList_inj.mp (h3 _ _ h2)

section
variable {E : EndsM} {ρ : StM} {m : Mem} {Q : KM} {QB : Bool → Mem → Prop} {QL : List D → Mem → Prop} {d x y : D} {t u : TSm} {pa pb pc p q : TEm} {ta tb : TTm} {la : TAm} {r r' : R2m}
theorem i_seq (h : t { E with nx := u E } ρ m) : wSeq t u E ρ m := h
theorem i_next (h : E.nx ρ m) : wNext E ρ m := h
theorem i_if (h : ta ρ m fun b m1 => if b = true then t E ρ m1 else u E ρ m1) : wIfS ta t u E ρ m := h
theorem i_ret (h : p ρ m E.rt) : wRet p E ρ m := h
theorem i_retN (h : E.rt .non m) : wRetN E ρ m := h
theorem i_drop (h : p ρ m fun _ m1 => E.nx ρ m1) : wDrop p E ρ m := h
theorem i_set {i : Nat} (h : p ρ m fun d m1 => E.nx (ρ.set i (some d)) m1) : wSet i p E ρ m := h
theorem i_asg {g : TGm} (h : p ρ m fun d m1 => g d ρ m1 E.nx) : wAsg p g E ρ m := h
theorem i_par {i j : Nat} (h : la ρ m fun ds m1 => twoAt ds fun x y => E.nx ((ρ.set i (some x)).set j (some y)) m1) : wPar i j la E ρ m := h
theorem i_gN {i : Nat} {n : StM → Mem → Prop} (h : n (ρ.set i (some d)) m) : gN i d ρ m n := h
theorem i_gTup {k : Nat} {h : TGsm} {n : StM → Mem → Prop} {ds : List D} (e : ds.length = k) (q : h ds ρ m n) : gTupM k h (.tup ds) ρ m n := ⟨e, q⟩
theorem i_gC {g : TGm} {h : TGsm} {n : StM → Mem → Prop} {ds : List D} (q : g d ρ m fun ρ1 m1 => h ds ρ1 m1 n) : gConss g h (d :: ds) ρ m n := q
theorem i_gE {n : StM → Mem → Prop} (q : n ρ m) : gNils [] ρ m n := ⟨rfl, q⟩
theorem i_var {i : Nat} (e : ρ[i]? = some (some d)) (h : Q d m) : wVar i ρ m Q := ⟨d, e, h⟩
theorem i_C (h : Q d m) : wC d ρ m Q := h
theorem i_bin (h : pa ρ m fun x m1 => pb ρ m1 fun y m2 => r x y m2 Q) : wBin r pa pb ρ m Q := h
theorem i_un {r : R1m} (h : p ρ m fun d m1 => r d m1 Q) : wUn r p ρ m Q := h
theorem i_neg {i : Int} (h : Q (.int (-i)) m) : wNeg (.int i) m Q := h
theorem i_test (h : p ρ m fun d m' => ∃ k, d = .bl k ∧ QB k m') : wTest p ρ m QB := h
theorem i_bl {b : Bool} {R : Bool → Prop} (h : R b) : ∃ k, D.bl b = .bl k ∧ R k := ⟨b, rfl, h⟩
theorem i_chain (h : pa ρ m fun x m1 => pb ρ m1 fun y m2 => r x y m2 fun z m3 => ∃ k, z = .bl k ∧ if k = true then pc ρ m3 fun w m4 => r' y w m4 Q else Q (.bl false) m3) : wChain r r' pa pb pc ρ m Q := h
theorem i_and (h : ta ρ m fun c m1 => if c = true then tb ρ m1 QB else QB false m1) : wAnd ta tb ρ m QB := h
theorem i_or (h : ta ρ m fun c m1 => if c = true then QB true m1 else tb ρ m1 QB) : wOr ta tb ρ m QB := h
theorem i_not (h : ta ρ m fun c m1 => QB (!c) m1) : wNot ta ρ m QB := h
theorem i_andV (h : p ρ m fun d m1 => ∃ c, d = .bl c ∧ if c = true then q ρ m1 Q else Q (.bl false) m1) : wAndV p q ρ m Q := h
theorem i_orV (h : p ρ m fun d m1 => ∃ c, d = .bl c ∧ if c = true then Q (.bl true) m1 else q ρ m1 Q) : wOrV p q ρ m Q := h
theorem i_notV (h : p ρ m fun d m1 => ∃ c, d = .bl c ∧ Q (.bl (!c)) m1) : wNotV p ρ m Q := h
theorem i_ifE (h : ta ρ m fun c m1 => if c = true then p ρ m1 Q else q ρ m1 Q) : wIf ta p q ρ m Q := h
theorem i_nil (h : QL [] m) : wNil ρ m QL := h
theorem i_cons (h : p ρ m fun d m1 => la ρ m1 fun ds m2 => QL (d :: ds) m2) : wCons p la ρ m QL := h
theorem i_tup (h : la ρ m fun ds m1 => ds.length ≤ sizeLine ∧ Q (.tup ds) m1) : wTup la ρ m Q := h
theorem i_lst (h : la ρ m fun ds m1 => ds.length ≤ sizeLine ∧ newO (.lst ds) m1 Q) : wLst la ρ m Q := h
theorem i_call {sp : SpM} {Em : XM} (h : la ρ m fun ds m1 => sp ds m1 Q Em) : wCall sp Em la ρ m Q := h
theorem i_cb {rl : RLm} (h : la ρ m fun ds m1 => rl ds m1 Q) : wCB rl la ρ m Q := h
theorem i_I0 {g : Int → Int → D} {i j : Int} (h : Q (g i j) m) : wI0 g (.int i) (.int j) m Q := h
theorem i_I {C : Int → Int → Prop} {g : Int → Int → D} {i j : Int} (c : C i j) (h : Q (g i j) m) : wI C g (.int i) (.int j) m Q := ⟨c, h⟩
theorem i_plusI {i j : Int} (h : Q (.int (i + j)) m) : wPlus (.int i) (.int j) m Q := h
theorem i_plusS {i j : Str} (z : i.length + j.length ≤ sizeLine) (h : Q (.str (i ++ j)) m) : wPlus (.str i) (.str j) m Q := ⟨z, h⟩
theorem i_plusT {i j : List D} (z : i.length + j.length ≤ sizeLine) (h : Q (.tup (i ++ j)) m) : wPlus (.tup i) (.tup j) m Q := ⟨z, h⟩
theorem i_plusL {a b : Addr} {i j : List D} (h1 : m a = some (.lst i)) (h2 : m b = some (.lst j)) (z : i.length + j.length ≤ sizeLine) (h : newO (.lst (i ++ j)) m Q) : wPlus (.ref a) (.ref b) m Q := ⟨i, j, h1, h2, z, h⟩
theorem i_timesI {i j : Int} (c : CMul i j ∨ CMulW i j) (h : Q (.int (i * j)) m) : wTimes (.int i) (.int j) m Q := ⟨c, h⟩
theorem i_timesS {i : Str} {j : Int} (c : MulOk i j) (h : Q (.str (Txt.mul i j)) m) : wTimes (.str i) (.int j) m Q := ⟨c, h⟩
theorem i_eqq {k : Bool} (e : scD x y = some k) (h : Q (.bl k) m) : wEqq x y m Q := ⟨k, .inl e, h⟩
theorem i_neq {k : Bool} (e : scD x y = some k) (h : Q (.bl (!k)) m) : wNeq x y m Q := ⟨k, .inl e, h⟩
theorem i_eqqS {a b : Str} (h : Q (.bl (decide (a = b))) m) : wEqq (.str a) (.str b) m Q := ⟨_, .inl rfl, h⟩
theorem i_eqqI {a b : Int} (h : Q (.bl (decide (a = b))) m) : wEqq (.int a) (.int b) m Q := ⟨_, .inl rfl, h⟩
theorem i_eqqB {a b : Bool} (h : Q (.bl (decide (a = b))) m) : wEqq (.bl a) (.bl b) m Q := ⟨_, .inl rfl, h⟩
theorem i_neqS {a b : Str} (h : Q (.bl (!decide (a = b))) m) : wNeq (.str a) (.str b) m Q := ⟨_, .inl rfl, h⟩
theorem i_neqI {a b : Int} (h : Q (.bl (!decide (a = b))) m) : wNeq (.int a) (.int b) m Q := ⟨_, .inl rfl, h⟩
theorem i_neqB {a b : Bool} (h : Q (.bl (!decide (a = b))) m) : wNeq (.bl a) (.bl b) m Q := ⟨_, .inl rfl, h⟩
theorem i_subT {ds : List D} {i : Int} (e : atI ds i = some d) (h : Q d m) : wSub (.tup ds) (.int i) m Q := ⟨d, e, h⟩
theorem i_subL {a : Addr} {ds : List D} {i : Int} (e0 : rdM m a = some (.lst ds)) (e : atI ds i = some d) (h : Q d m) : wSub (.ref a) (.int i) m Q := ⟨_, e0, i, d, rfl, e, h⟩
theorem i_subK {a : Addr} {kvs : List (Key × D)} {z : Str} (e0 : rdM m a = some (.dK kvs)) (e : valD kvs (.inr z) = some d) (h : Q d m) : wSub (.ref a) (.str z) m Q := ⟨_, e0, d, ⟨.inr z, rfl, e.symm⟩, h⟩
theorem i_subD {a : Addr} {kvs : List (List Key × D)} {ks : List Key} (e0 : rdM m a = some (.dT kvs)) (n1 : ks.length ≠ 1) (n5 : ks.length ≠ 5) (e : valD kvs ks = some d) (h : Q d m) : wSub (.ref a) (.tup (ks.map kD)) m Q := ⟨_, e0, d, ⟨ks, rfl, n1, n5, e.symm⟩, h⟩
theorem i_subS {z : Str} {i : Int} {c : Nat} (l : z.length ≤ sizeLine) (e : atI z.cps.toList i = some c) (h : Q (.str ⟨#[c]⟩) m) : wSub (.str z) (.int i) m Q := ⟨l, c, e, h⟩
theorem i_isN (h : Q (.bl (isN x)) m) : wIsN x .non m Q := h
theorem i_notN (h : Q (.bl (!isN x)) m) : wNotN x .non m Q := h
theorem i_max2 {i j : Int} (h : Q (.int (if j > i then j else i)) m) : wMax2 [.int i, .int j] m Q := h
theorem i_min2 {i j : Int} (h : Q (.int (if j < i then j else i)) m) : wMin2 [.int i, .int j] m Q := h
theorem i_abs {i : Int} (h : Q (.int (if i < 0 then -i else i)) m) : wAbs [.int i] m Q := h
theorem i_intI {i : Int} (h : Q (.int i) m) : wInt1 [.int i] m Q := h
theorem i_intB {b : Bool} (h : Q (.int (if b then 1 else 0)) m) : wInt1 [.bl b] m Q := h
theorem i_lenS {z : Str} (l : z.length ≤ sizeLine) (h : Q (.int z.length) m) : wLen1 [.str z] m Q := ⟨l, h⟩
theorem i_lenT {ds : List D} (h : Q (.int ds.length) m) : wLen1 [.tup ds] m Q := h
theorem i_lenL {a : Addr} {ds : List D} (e : rdM m a = some (.lst ds)) (h : Q (.int ds.length) m) : wLen1 [.ref a] m Q := .inl ⟨ds, e, h⟩
theorem i_lenD {a : Addr} {kvs : List (Key × D)} (e : m a = some (.dK kvs)) (h : Q (.int kvs.length) m) : wLen1 [.ref a] m Q := .inr ⟨kvs, e, h⟩
theorem i_isi {t T : String} (e : tyD m x = some t) (ht : T ∈ tys) (h : Q (.bl (isiB t T)) m) : wIsi [x, .ty T] m Q := ⟨t, e, ht, h⟩
theorem i_listT {ds : List D} (h : newO (.lst ds) m Q) : wList1 [.tup ds] m Q := h
theorem i_listL {a : Addr} {ds : List D} (e : rdM m a = some (.lst ds)) (h : newO (.lst ds) m Q) : wList1 [.ref a] m Q := .inl ⟨ds, e, h⟩
theorem i_listD {a : Addr} {kvs : List (Key × D)} (e : m a = some (.dK kvs)) (h : newO (.lst (kvs.map fun p => kD p.1)) m Q) : wList1 [.ref a] m Q := .inr ⟨kvs, e, h⟩
theorem i_tupT {ds : List D} (h : Q (.tup ds) m) : wTuple1 [.tup ds] m Q := h
theorem i_tupL {a : Addr} {ds : List D} (e : rdM m a = some (.lst ds)) (h : Q (.tup ds) m) : wTuple1 [.ref a] m Q := ⟨ds, e, h⟩
theorem i_put (h : pc ρ m fun z m1 => pa ρ m1 fun x m2 => pb ρ m2 fun y m3 => refAt x fun a => ∃ o o', m3 a = some o ∧ putO o y z o' ∧ E.nx ρ (mput m3 a o')) : wPut pa pb pc E ρ m := h
theorem i_ref {a : Addr} {k : Addr → Prop} (h : k a) : refAt (.ref a) k := h
theorem i_tupAt {ds : List D} {k : List D → Prop} (h : k ds) : tupAt (.tup ds) k := h
theorem i_two {x y : D} {k : D → D → Prop} (h : k x y) : twoAt [x, y] k := h
theorem i_int1 {i : Int} {k : Int → Prop} (h : k i) : int1At [.int i] k := h
theorem i_int2 {i j : Int} {k : Int → Int → Prop} (h : k i j) : int2At [.int i, .int j] k := h
theorem i_putK {a : Addr} {kvs : List (Key × D)} {k : Str} {z : D} {R : Mem → Prop} (h1 : m a = some (.dK kvs)) (n : kvs.length < sizeLine) (h : R (mput m a (.dK (putD kvs (.inr k) z)))) :
    ∃ o o', m a = some o ∧ putO o (.str k) z o' ∧ R (mput m a o') := ⟨_, _, h1, ⟨.inr k, rfl, n, rfl⟩, h⟩
theorem i_rt {R : KM} (h : R d m) : RtM R d m := RtM.mk h
theorem i_iteT {b : Bool} {P R : Prop} (e : b = true) (h : P) : if b = true then P else R := by rw [e]; exact h
theorem i_iteF {b : Bool} {P R : Prop} (e : b = false) (h : R) : if b = true then P else R := by rw [e]; exact h
theorem i_ite {b : Bool} {P R : Prop} (h1 : b = true → P) (h2 : b = false → R) : if b = true then P else R := by
  cases b with
  | true => exact h1 rfl
  | false => exact h2 rfl
theorem i_size {α : Type} {ds : List α} {n : Nat} (h : ds.length ≤ n) (z : n ≤ 1000 := by decide) : ds.length ≤ sizeLine := Nat.le_of_lt (small1000 (Nat.le_trans h z))
theorem i_and2 {P R : Prop} (h1 : P) (h2 : R) : P ∧ R := ⟨h1, h2⟩
theorem sl {n : Nat} (h : n ≤ 1000) : n ≤ sizeLine := Nat.le_of_lt (small1000 h)
end
end Mm
namespace Mm
open PySem L2
open PyProof.Rows (envOfC)

/-! ### a list of the written part, or of the memory (the script) -/
def KL (K : PySem.W.Frag) (a : Addr) (ns : List Int) : Prop := ∃ (o : Obj) (its : Array Value) (n : Nat), K.lookup a = some o ∧ o.cls = .type "list" ∧ o.dict = none ∧ o.data = .seq its n ∧ its.size ≤ sizeLine ∧ Vals (ns.map V.int) its.toList
def LsK (K : PySem.W.Frag) (m : Mem) (a : Addr) (ns : List Int) : Prop := rdM m a = some (.lst (ns.map .int)) ∨ KL K a ns
theorem LsK.sq {K : PySem.W.Frag} {H : Hp} {m : Mem} {a : Addr} {ns : List Int} (r : RM K H m) (h : LsK K m a ns) : SqL K H a (ns.map V.int) := by
  rcases h with h | h
  · obtain ⟨xs, s, rr⟩ := rd_lst r h
    rw [reps_intsV rr] at s; exact s
  · exact .inr h
theorem LsK.put {K : PySem.W.Frag} {m : Mem} {a b : Addr} {o : O} {ns : List Int} (h : LsK K m a ns) (ne : a ≠ b) : LsK K (mput m b o) a ns := by
  rcases h with h | h
  · refine .inl ?_
    unfold rdM at h ⊢
    rw [mput_ne ne]; exact h
  · exact .inr h
section
variable {X : Cx} {B : Bs} {e tg iter k v : Expr} {ks : List (Option Expr)} {vs : List Expr} {pos : Pos} {p pa pb : TEm}
def wSubS (K : PySem.W.Frag) : R2m := fun x y m Q => match x, y with
  | .ref a, .int i => ∃ ns n, LsK K m a ns ∧ atI ns i = some n ∧ Q (.int n) m
  | _, _ => False
theorem atI_map {α β : Type} {f : α → β} {xs : List α} {i : Int} {x : α} (h : atI xs i = some x) : atI (xs.map f) i = some (f x) := by
  unfold atI at h ⊢
  rw [List.length_map]
  cases q : ixN xs.length i with
  | none => rw [q] at h; cases h
  | some j =>
    rw [q] at h
    show (xs.map f)[j]? = _
    rw [List.getElem?_map]
    have : xs[j]? = some x := h
    rw [this]; rfl
theorem mi_subS : MIx X (wSubS X.K) := mix_of ix_list fun x y v w H m Q Qm hx hy r q k => by
  unfold wSubS at q
  split at q
  · obtain ⟨ns, n, h, e, q⟩ := q
    exact ⟨_, _, _, .int n, Rep.ref_iff.mp hx, Rep.int_iff.mp hy, h.sq r, atI_map e, k _ _ _ _ q r Step.refl Rep.int⟩
  · exact q.elim
def wLenS (K : PySem.W.Frag) : RLm := fun ds m Q => match ds with
  | [.ref a] => ∃ ns, LsK K m a ns ∧ Q (.int ns.length) m
  | _ => False
theorem mc_lenS : MCall X (.builtin "len") (wLenS X.K) := mcall_of call_len fun ds vs H m Q Qm hx r q k => by
  unfold wLenS at q; split at q
  · obtain ⟨v, e, x⟩ := reps1 hx
    rw [Rep.ref_iff.mp x] at e
    obtain ⟨ns, h, q⟩ := q
    exact ⟨.ref _, _, e, Or.inl ⟨_, h.sq r, rfl⟩, by rw [List.length_map]; exact k _ _ _ _ q r Step.refl Rep.int⟩
  · exact q.elim
/-- over the script: at each turn it is looked at -/
def iLS (K : PySem.W.Frag) (p : TEm) : TIm := fun ρ m R => p ρ m fun d m1 => refAt d fun a => ∃ ns, LsK K m1 a ns ∧ R (ns.map .int) (fun m' => LsK K m' a ns) m1
theorem mi_listS (h : MX X B iter p) : MI X B tg iter (iLS X.K p) := piImp (pi_list h) fun σ H R ⟨ρ, m, Rm, A, q, k⟩ => by
  refine ⟨ρ, m, _, A, q, fun d m1 v H1 q1 r1 t1 x1 => ?_⟩
  unfold refAt at q1
  split at q1
  · obtain ⟨ns, e, q1⟩ := q1
    refine ⟨_, Rep.ref_iff.mp x1, ⟨_, e.sq r1⟩, k _ _ _ _ _ q1 r1 t1 (good_list (fun m' H' s r c => ⟨_, c.sq r, Reps.ints ns⟩) fun _ _ _ _ _ _ => trivial)⟩
  · exact q1.elim

/-! ### a displayed dict -/
def wPairs : List (TEm × TEm) → StM → Mem → (List (D × D) → Mem → Prop) → Prop
  | [], _, m, Q => Q [] m
  | (tk, tv) :: r, ρ, m, Q => tk ρ m fun x m1 => tv ρ m1 fun y m2 => wPairs r ρ m2 fun ps m3 => Q ((x, y) :: ps) m3
def MPs (X : Cx) (B : Bs) (pos : Pos) (keys : List (Option Expr)) (values : List Expr) (ps : List (TEm × TEm)) : Prop := PPs X pos keys values (ps.map fun p => (uE X.K B p.1, uE X.K B p.2))
theorem mps_nil : MPs X B pos [] [] [] := pps_nil
theorem mps_cons {ps : List (TEm × TEm)} (hk : MX X B k pa) (hv : MX X B v pb) (hr : MPs X B pos ks vs ps) : MPs X B pos (some k :: ks) (v :: vs) ((pa, pb) :: ps) := pps_cons hk hv hr
def mergeD (kvs more : List (Key × D)) : List (Key × D) := more.foldl (fun acc kv => putD acc kv.1 kv.2) kvs
theorem KVs.merge {K : PySem.W.Frag} {H : Hp} : ∀ {more : List (Key × D)} {rs : List (Key × V)} {kvs : List (Key × D)} {ws : List (Key × V)}, KVs K H more rs → KVs K H kvs ws → KVs K H (mergeD kvs more) (mergeK ws rs) := by
  intro more rs kvs ws r
  unfold KVs at r
  induction r generalizing kvs ws with
  | nil => intro q; exact q
  | @cons p q ps qs h t ih =>
    intro r0
    have e : KVs K H (putD kvs p.1 p.2) (putK ws q.1 q.2) := by
      have := KVs.put (k := p.1) h.2 r0
      rw [← h.1]; exact this
    exact ih e
def wDisp (ps : List (TEm × TEm)) : TEm := fun ρ m Q => wPairs ps ρ m fun prs m' => ∃ kvs : List (Key × D), prs = kvs.map (fun kv => (kD kv.1, kv.2)) ∧ kvs.length ≤ 15 ∧ newO (.dK (mergeD [] kvs)) m' Q
abbrev PairV (K : PySem.W.Frag) (H : Hp) : List (D × D) → List (V × V) → Prop := Paired fun p q => Rep K H p.1 q.1 ∧ Rep K H p.2 q.2
theorem pairs_go {K : PySem.W.Frag} : ∀ (ps : List (TEm × TEm)) {σ : St} {H : Hp} {ρ : StM} {m : Mem} {Qm : List (D × D) → Mem → Prop} {Q : List (V × V) → Hp → Prop}, At K B σ H ρ m → wPairs ps ρ m Qm →
    (∀ prs m' vs H', Qm prs m' → RM K H' m' → Step m H m' H' → PairV K H' prs vs → Q vs H') → tPairs (ps.map fun p => (uE K B p.1, uE K B p.2)) σ H Q
  | [], σ, H, ρ, m, Qm, Q, A, q, k => k _ _ _ _ q A.r Step.refl .nil
  | (tk, tv) :: r, σ, H, ρ, m, Qm, Q, A, q, k => by
    refine ⟨ρ, m, _, A, q, fun x m1 v H1 q1 r1 t1 x1 => ?_⟩
    refine ⟨ρ, m1, _, A.step r1 t1, q1, fun y m2 w H2 q2 r2 t2 x2 => ?_⟩
    refine pairs_go r ((A.step r1 t1).step r2 t2) q2 fun prs m3 ws H3 q3 r3 t3 x3 => ?_
    exact k _ _ _ _ q3 r3 (t1.trans (t2.trans t3)) (.cons ⟨(x1.stay (t2.tups r1)).stay (t3.tups r2), x2.stay (t3.tups r2)⟩ x3)
theorem pairV_kvs {K : PySem.W.Frag} {H : Hp} : ∀ {kvs : List (Key × D)} {vs : List (V × V)}, PairV K H (kvs.map fun kv => (kD kv.1, kv.2)) vs → ∃ ws : List (Key × V), vs = ws.map (fun kv => (kV kv.1, kv.2)) ∧ KVs K H kvs ws
  | [], _, h => by rw [List.map_nil] at h; cases h; exact ⟨[], rfl, .nil⟩
  | p :: kvs, _, h => by
    rw [List.map_cons] at h
    cases h with
    | @cons a b as bs h t =>
      obtain ⟨ws, e, r⟩ := pairV_kvs t
      obtain ⟨b1, b2⟩ := b
      have e1 : b1 = kV p.1 := kD_rep h.1
      subst e1
      exact ⟨(p.1, b2) :: ws, by rw [e]; rfl, .cons ⟨rfl, h.2⟩ r⟩
/-- what is hidden is written, and told -/
theorem RM.told {K : PySem.W.Frag} {H : Hp} {m : Mem} (r : RM K H m) {p : Addr} {u u' : HO} {o : O} (hp : H p = some u) (nt : ∀ xs, u ≠ .tup xs) (nf : ∀ ob v, u ≠ .frz ob v) (mp : m p = none) (x : RepO K H o u') :
    RM K (upd H p u') (mput m p o) ∧ TupS K H (upd H p u') := by
  have ts : TupS K H (upd H p u') := by
    have ne : ∀ a o, H a = some o → (o ≠ u) → upd H p u' a = some o := fun a o h1 h2 => by
      rw [upd_ne]; exact h1
      rintro rfl; rw [hp] at h1; cases h1; exact h2 rfl
    intro a ys n hy
    rcases hy with hy | ⟨z, hy⟩
    · exact .inl (ne _ _ hy fun z => nt _ z.symm)
    · refine .inr ⟨z, ?_⟩
      rcases hy with (hy | ⟨ob, hy⟩) | hy
      · exact .inl (.inl (ne _ _ hy fun z => nt _ z.symm))
      · exact .inl (.inr ⟨ob, ne _ _ hy fun z => nf _ _ z.symm⟩)
      · exact .inr hy
  refine ⟨fun a o' e => ?_, ts⟩
  by_cases ne : a = p
  · subst ne
    rw [mput_same] at e; cases e
    exact ⟨u', upd_same, x.stay ts⟩
  · rw [mput_ne ne] at e
    obtain ⟨v, h1, h2⟩ := r a o' e
    exact ⟨v, by rw [upd_ne ne]; exact h1, h2.stay ts⟩
theorem mx_disp {keys : List (Option Expr)} {values : List Expr} {ps : List (TEm × TEm)} (h : MPs X B pos keys values ps) (hall : keys.all (·.isSome) = true := by rfl) (hl : keys.length = values.length := by rfl) (h0 : keys ≠ [] := by exact fun z => nomatch z)
    (h15 : keys.length ≤ 15 := by decide) : MX X B (.Dict keys values pos) (wDisp ps) := peImp (pe_disp h hall hl h0 h15) fun σ H Q ⟨ρ, m, Qm, A, q, k⟩ => by
  intro p hp
  have A1 : At X.K B σ (upd H p (.dK [])) ρ m := A.step (A.r.hid hp) (Step.hid A.r hp)
  refine pairs_go ps A1 q fun prs m' vs H2 ⟨kvs, e, z, q2⟩ r2 t2 x2 => ?_
  have mp : m p = none := A.r.out hp
  obtain ⟨e2, n2⟩ := t2 p _ upd_same (.inl mp)
  have mp2 : m' p = none := by
    rcases n2 with n2 | ⟨o, n2⟩
    · exact n2
    · obtain ⟨w, h1, ob, v, e6, _⟩ := r2 p _ n2
      rw [e2] at h1; cases h1; cases e6
  subst e
  obtain ⟨ws, e3, kv⟩ := pairV_kvs x2
  obtain ⟨r3, ts⟩ := r2.told (u' := .dK (mergeK [] ws)) (o := .dK (mergeD [] kvs)) e2 (fun _ z => by cases z) (fun _ _ z => by cases z) mp2 ⟨_, rfl, kv.merge .nil⟩
  refine ⟨e2, ws, e3, by rw [← kv.length]; exact z, k _ _ _ _ (q2 p mp2) r3 ?_ Rep.ref⟩
  intro a w h1 n1
  have ne : a ≠ p := by rintro rfl; rw [hp] at h1; cases h1
  obtain ⟨h2, n2⟩ := t2 a w (by rw [upd_ne ne]; exact h1) n1
  refine ⟨by rw [upd_ne ne]; exact h2, ?_⟩
  rcases n2 with n2 | ⟨o, n2⟩
  · exact .inl (by rw [mput_ne ne]; exact n2)
  · exact .inr ⟨o, by rw [mput_ne ne]; exact n2⟩

/-! ### slices -/
def cutL {α : Type} (xs : List α) (lo hi : Option Int) : List α := (xs.drop (HT.sIx xs.length 0 lo)).take (HT.sIx xs.length xs.length hi - HT.sIx xs.length 0 lo)
abbrev TOm := StM → Mem → (Option Int → Mem → Prop) → Prop
def uO (K : PySem.W.Frag) (B : Bs) (p : TOm) : TO := fun σ H Q => ∃ ρ m Qm, At K B σ H ρ m ∧ p ρ m Qm ∧ ∀ d m' H', Qm d m' → RM K H' m' → Step m H m' H' → Q d H'
def MO (X : Cx) (B : Bs) (e : Option Expr) (p : TOm) : Prop := PO X e (uO X.K B p)
theorem poImp {e : Option Expr} {t t' : TO} (h : PO X e t) (i : ∀ σ H Q, t' σ H Q → t σ H Q) : PO X e t' := ⟨fun pins s σ H Q I q => h.run pins s σ H Q I (i _ _ _ q)⟩
def wNoPart : TOm := fun _ m Q => Q none m
def intAt (d : D) (k : Int → Prop) : Prop := match d with
  | .int i => k i
  | _ => False
theorem i_intAt {i : Int} {k : Int → Prop} (h : k i) : intAt (.int i) k := h
def wPart (p : TEm) : TOm := fun ρ m Q => p ρ m fun d m1 => intAt d fun i => Q (some i) m1
theorem mo_none : MO X B none wNoPart := poImp po_none fun σ H Q ⟨ρ, m, Qm, A, q, k⟩ => k _ _ _ q A.r Step.refl
theorem mo_some (h : MX X B e p) : MO X B (some e) (wPart p) := poImp (po_some h) fun σ H Q ⟨ρ, m, Qm, A, q, k⟩ => by
  refine ⟨ρ, m, _, A, q, fun d m1 v H1 q1 r1 t1 x1 => ?_⟩
  unfold intAt at q1
  split at q1
  · exact ⟨_, Rep.int_iff.mp x1, k _ _ _ q1 r1 t1⟩
  · exact q1.elim
def wSlV (x : D) (lo hi : Option Int) (m3 : Mem) (Q : KM) : Prop := match x with
  | .tup ds => Q (.tup (cutL ds lo hi)) m3
  | .ref a => ∃ ds, rdM m3 a = some (.lst ds) ∧ newO (.lst (cutL ds lo hi)) m3 Q
  | .str z => z.length ≤ sizeLine ∧ Q (.str (cutS z lo hi)) m3
  | _ => False
theorem i_slT {ds : List D} {lo hi : Option Int} {m : Mem} {Q : KM} (q : Q (.tup (cutL ds lo hi)) m) : wSlV (.tup ds) lo hi m Q := q
theorem i_slL {a : Addr} {ds : List D} {lo hi : Option Int} {m : Mem} {Q : KM} (e : rdM m a = some (.lst ds)) (q : newO (.lst (cutL ds lo hi)) m Q) : wSlV (.ref a) lo hi m Q := ⟨ds, e, q⟩
theorem i_slS {z : Str} {lo hi : Option Int} {m : Mem} {Q : KM} (l : z.length ≤ sizeLine) (q : Q (.str (cutS z lo hi)) m) : wSlV (.str z) lo hi m Q := ⟨l, q⟩
def wSl (pe : TEm) (pl ph : TOm) : TEm := fun ρ m Q => pe ρ m fun x m1 => pl ρ m1 fun lo m2 => ph ρ m2 fun hi m3 => wSlV x lo hi m3 Q
theorem reps_cut {K : PySem.W.Frag} {H : Hp} {ds : List D} {vs : List V} (h : Reps K H ds vs) (lo hi : Option Int) : Reps K H (cutL ds lo hi) (cutV vs lo hi) := by
  unfold cutL cutV
  rw [h.length]
  exact (h.drop _).take _
theorem mx_slice {lo hi : Option Expr} {pl ph : TOm} {p2 : Pos} (he : MX X B e p) (hl : MO X B lo pl) (hu : MO X B hi ph) : MX X B (.Subscript e (.Slice lo hi none p2) pos) (wSl p pl ph) :=
  peImp (pe_slice ((SlR.or sl_tupA (SlR.or sl_list sl_str))) he hl hu) fun σ H Q ⟨ρ, m, Qm, A, q, k⟩ => by
  refine ⟨ρ, m, _, A, q, fun d m1 v H1 q1 r1 t1 x1 => ?_⟩
  refine ⟨ρ, m1, _, A.step r1 t1, q1, fun l m2 H2 q2 r2 t2 => ?_⟩
  refine ⟨ρ, m2, _, (A.step r1 t1).step r2 t2, q2, fun h m3 H3 q3 r3 t3 => ?_⟩
  have t := t1.trans (t2.trans t3)
  have x3 := (x1.stay (t2.tups r1)).stay (t3.tups r2)
  unfold wSlV at q3
  split at q3
  · rename_i ds
    obtain ⟨a, xs, e1, s, rr⟩ := Rep.tup_iff.mp x3
    refine .inl ⟨a, xs, e1, s.sq, fun z => ?_, fun _ p hp => ?_⟩
    · have e2 : cutL ds l h = ds := by
        unfold cutL
        rw [rr.length, z.1, z.2, List.drop_zero, Nat.sub_zero, ← rr.length]
        exact List.take_length
      rw [e2] at q3
      exact k _ _ _ _ q3 r3 t (by rw [← e1]; exact x3)
    · have th : Step m3 H3 m3 (upd H3 p (.tup (cutV xs l h))) := Step.hid r3 hp
      exact k _ _ _ _ q3 (r3.hid hp) (t.trans th) (Rep.tup_iff.mpr ⟨p, _, rfl, TupAt.of upd_same, (reps_cut rr l h).stay (th.tups r3)⟩)
  · obtain ⟨ds, e1, q3⟩ := q3
    obtain ⟨xs, s, rr⟩ := rd_lst r3 e1
    exact .inr (.inl ⟨_, xs, Rep.ref_iff.mp x3, s, new_go q3 r3 t ⟨_, rfl, reps_cut rr l h⟩ k⟩)
  · exact .inr (.inr ⟨_, Rep.str_iff.mp x3, q3.1, k _ _ _ _ q3.2 r3 t Rep.str⟩)
  · exact q3.elim

/-! ### dict(d), sorted -/
end
end Mm
namespace Mm
open PySem L2
open PyProof.Rows (envOfC)

/-! ### the keys of a dict, walked -/
def keysO (o : O) (ds : List D) : Prop := match o with
  | .dK kvs => ds = kvs.map fun p => kD p.1
  | .dT kvs => ds = kvs.map (fun p => .tup (p.1.map kD)) ∧ ∀ p ∈ kvs, p.1.length ≠ 1 ∧ p.1.length ≠ 5
  | _ => False
section
variable {X : Cx} {B : Bs} {e elt tg iter : Expr} {ifs : List Expr} {body : List Stmt} {pos : Pos} {p : TEm}
def iK (p : TEm) : TIm := fun ρ m R => p ρ m fun d m1 => refAt d fun a => ∃ o ds, m1 a = some (.frz o) ∧ keysO o ds ∧ R ds (fun _ => True) m1
theorem kvs_at {K : PySem.W.Frag} {H : Hp} {κ : Type} {a : List (κ × D)} {b : List (κ × V)} (h : KVs K H a b) : ∀ {i : Nat} {p : κ × V}, b[i]? = some p → ∃ q, a[i]? = some q ∧ q.1 = p.1 := by
  unfold KVs at h
  induction h with
  | nil => intro i p e; simp at e
  | cons h r ih =>
    intro i p e
    cases i with
    | zero => simp at e; subst e; exact ⟨_, by simp, h.1⟩
    | succ i => simpa using ih (by simpa using e)
theorem mi_keys (h : MX X B iter p) : MI X B tg iter (iK p) := piImp (pi_keys h) fun σ H R ⟨ρ, m, Rm, A, q, k⟩ => by
  refine ⟨ρ, m, _, A, q, fun d m1 v H1 q1 r1 t1 x1 => ?_⟩
  unfold refAt at q1
  split at q1
  · rename_i a
    obtain ⟨o, ds, e, ky, q1⟩ := q1
    obtain ⟨u, h1, ob, w, rfl, h2⟩ := r1 _ _ e
    have stay : ∀ m' H', Step m1 H1 m' H' → H' a = some (.frz ob w) := fun m' H' s => (s a _ h1 (.inr ⟨_, e⟩)).1
    unfold keysO at ky
    split at ky
    · rename_i kvs
      subst ky
      obtain ⟨xs, rfl, kv⟩ := h2
      refine ⟨_, ob, Rep.ref_iff.mp x1, .inl ⟨xs, h1, k _ _ _ _ _ q1 r1 t1 fun i m' H' s r c => ?_⟩⟩
      have h3 := stay m' H' s
      refine ⟨fun d e2 => ?_, fun e2 => ⟨h3, by rw [← kv.length]; simpa using e2⟩⟩
      rw [List.getElem?_map] at e2
      obtain ⟨pr, e3, e4⟩ := Option.map_eq_some_iff.mp e2
      have hi : i < xs.length := by rw [← kv.length]; exact (List.getElem?_eq_some_iff.mp e3).1
      refine ⟨⟨h3, hi⟩, fun x H2 y => ?_⟩
      obtain ⟨rfl, k', v', e5, rfl⟩ := y
      obtain ⟨q', e6, e7⟩ := kvs_at kv e5
      rw [e3] at e6; cases e6
      refine ⟨r, Step.refl, ?_⟩
      rw [← e4, e7]; exact rep_kD
    · rename_i kvs
      obtain ⟨ky, kn⟩ := ky
      subst ky
      obtain ⟨xs, rfl, kv⟩ := h2
      refine ⟨_, ob, Rep.ref_iff.mp x1, .inr ⟨xs, h1, k _ _ _ _ _ q1 r1 t1 fun i m' H' s r c => ?_⟩⟩
      have h3 := stay m' H' s
      refine ⟨fun d e2 => ?_, fun e2 => ⟨h3, by rw [← kv.length]; simpa using e2⟩⟩
      rw [List.getElem?_map] at e2
      obtain ⟨pr, e3, e4⟩ := Option.map_eq_some_iff.mp e2
      have hi : i < xs.length := by rw [← kv.length]; exact (List.getElem?_eq_some_iff.mp e3).1
      refine ⟨⟨h3, hi⟩, fun x H2 y => ?_⟩
      obtain ⟨rfl, k', v', qa, e5, rfl, ht⟩ := y
      obtain ⟨q', e6, e7⟩ := kvs_at kv e5
      rw [e3] at e6; cases e6
      refine ⟨r, Step.refl, ?_⟩
      rw [← e4, e7]
      exact Rep.tup_iff.mpr ⟨qa, _, rfl, .inl ht, reps_kDs⟩
    · exact ky.elim
  · exact q1.elim
theorem unlock_tups {K : PySem.W.Frag} {H' : Hp} {m' : Mem} {a : Addr} {u : HO} {od : Obj} (r' : RM K H' m') (e1 : H' a = some (.frz od u)) (mu : Mut (some u)) : TupS K H' (upd H' a u) := by
  have ne : ∀ b w, H' b = some w → (∀ ob v, w ≠ .frz ob v) → upd H' a u b = some w := fun b w hb hw => by
    rw [upd_ne]; exact hb
    rintro rfl; rw [e1] at hb; cases hb; exact hw _ _ rfl
  intro b ys n hy
  rcases hy with hy | ⟨z, hy⟩
  · exact .inl (ne _ _ hy fun _ _ z => by cases z)
  · refine .inr ⟨z, ?_⟩
    rcases hy with (hy | ⟨ob, hy⟩) | hy
    · exact .inl (.inl (ne _ _ hy fun _ _ z => by cases z))
    · by_cases eb : b = a
      · subst eb
        rw [e1] at hy; cases hy
        exact False.elim mu
      · exact .inl (.inr ⟨ob, by rw [upd_ne eb]; exact hy⟩)
    · exact .inr hy
/-- locking a dict -/
theorem lock_go {K : PySem.W.Frag} {H : Hp} {m : Mem} {a : Addr} {o : O} {ds : List D} (r : RM K H m) (e : m a = some o) (ky : keysO o ds) :
    ∃ u, H a = some u ∧ Mut (some u) ∧ Wr o ∧ ∀ od, RM K (upd H a (.frz od u)) (mput m a (.frz o)) ∧ Step m H (mput m a (.frz o)) (upd H a (.frz od u)) := by
  obtain ⟨u, h1, h2⟩ := r a o e
  have mu : Mut (some u) ∧ Wr o := by
    unfold keysO at ky
    split at ky
    · obtain ⟨xs, rfl, _⟩ := h2; exact ⟨trivial, trivial⟩
    · obtain ⟨xs, rfl, _⟩ := h2; exact ⟨trivial, trivial⟩
    · exact ky.elim
  exact ⟨u, h1, mu.1, mu.2, fun od => ⟨r.put e mu.2 ⟨od, u, rfl, h2⟩, Step.put r e mu.2⟩⟩
theorem unlock_go {K : PySem.W.Frag} {H H' : Hp} {m m' : Mem} {a : Addr} {o : O} {u : HO} {od : Obj} {ds : List D} (r : RM K H m) (e : m a = some o) (ky : keysO o ds) (h1 : H a = some u) (h2 : RepO K H o u) (mu : Mut (some u))
    (r' : RM K H' m') (t : Step (mput m a (.frz o)) (upd H a (.frz od u)) m' H') : H' a = some (.frz od u) ∧ RM K (upd H' a u) (mput m' a o) ∧ Step m H (mput m' a o) (upd H' a u) := by
  have e1 : H' a = some (.frz od u) := (t a _ upd_same (.inr ⟨o, mput_same⟩)).1
  have n1 : Nm m' a := (t a _ upd_same (.inr ⟨o, mput_same⟩)).2
  have ts0 : TupS K H (upd H a (.frz od u)) := by
    have w : Wr o := by
      unfold keysO at ky
      split at ky
      · trivial
      · trivial
      · exact ky.elim
    exact (Step.put (u := .frz od u) (o := .frz o) r e w).tups r
  have rl : RM K (upd H a (.frz od u)) (mput m a (.frz o)) := by
    have w : Wr o := by
      unfold keysO at ky
      split at ky
      · trivial
      · trivial
      · exact ky.elim
    exact r.put e w ⟨od, u, rfl, h2⟩
  have ts1 : TupS K H H' := fun b ys n hy => t.tups rl b ys n (ts0 b ys n hy)
  have ts2 : TupS K H' (upd H' a u) := unlock_tups r' e1 mu
  refine ⟨e1, fun b ob hb => ?_, fun b w hb n => ?_⟩
  · by_cases eb : b = a
    · subst eb
      rw [mput_same] at hb; cases hb
      exact ⟨u, upd_same, (h2.stay ts1).stay ts2⟩
    · rw [mput_ne eb] at hb
      obtain ⟨w, z1, z2⟩ := r' b ob hb
      exact ⟨w, by rw [upd_ne eb]; exact z1, z2.stay ts2⟩
  · have eb : b ≠ a := by
      rintro rfl
      have w : Wr o := by
        unfold keysO at ky
        split at ky
        · trivial
        · trivial
        · exact ky.elim
      exact nm_wr e w n
    obtain ⟨z1, z2⟩ := t b w (by rw [upd_ne eb]; exact hb) (by
      rcases n with n | ⟨o', n⟩
      · exact .inl (by rw [mput_ne eb]; exact n)
      · exact .inr ⟨o', by rw [mput_ne eb]; exact n⟩)
    refine ⟨by rw [upd_ne eb]; exact z1, ?_⟩
    rcases z2 with n | ⟨o', n⟩
    · exact .inl (by rw [mput_ne eb]; exact n)
    · exact .inr ⟨o', by rw [mput_ne eb]; exact n⟩
/-- [elt for k in d], d the dict in slot i -/
def wLcK (i : Nat) (g : TGm) (tt : TTm) (te : TEm) (vs : List Nat) : TEm := fun ρ m Q => ∃ a o ds, ρ[i]? = some (some (.ref a)) ∧ m a = some o ∧ keysO o ds ∧
  lcC (fun _ => True) g tt te vs ρ (fun acc m' => ∀ p, p ≠ a → m' p = none → Q (.ref p) (mput (mput m' a o) p (.lst acc))) ds [] (mput m a (.frz o))
theorem mx_lcK {i : Nat} {scope : Scope} {own : List (Str × Nat)} {g : TGm} {g0 : TG} {tt : TTm} {te : TEm} (hc : X.calm = true) (hN : X.N.Nodup) (hi : MX X B iter (wVar i)) (ok : BlkOk X.N X.env.scope scope own)
    (hg : ∀ (s : Shared) (H : Hp) (C : Addr) (cl : List (Str × Addr)) (fp : List Addr), PG (X.blk s H scope (compEnvC scope cl C X.env) fp) tg g0) (gk : GOk X.K B g g0 (own.map (·.2)))
    (ht : ∀ (s : Shared) (H : Hp) (C : Addr) (cl : List (Str × Addr)) (fp : List Addr), MTs (X.blk s H scope (compEnvC scope cl C X.env) fp) B ifs tt)
    (he : ∀ (s : Shared) (H : Hp) (C : Addr) (cl : List (Str × Addr)) (fp : List Addr), MX (X.blk s H scope (compEnvC scope cl C X.env) fp) B elt te) (hs : ∀ x, foldedSetIterable iter X.env x = pure x := by intro _; rfl) :
    MX X B (.ListComp elt [⟨tg, iter, ifs, 0⟩] scope pos) (wLcK i g tt te (own.map (·.2))) :=
  peImp (pe_lock (pe_lc (tt := uT X.K B tt) (te := uE X.K B te) hc hN (mi_keys (tg := tg) hi) ok hg ht he hs)) fun σ H Q ⟨ρ, m, Qm, A, ⟨a, o, ds, ei, e, ky, q⟩, k⟩ => by
  obtain ⟨u, h1, mu, w, lk⟩ := lock_go A.r e ky
  obtain ⟨u', h1', h2⟩ := A.r a o e
  rw [h1] at h1'; cases h1'
  refine ⟨a, u, h1, mu, fun od => ?_⟩
  obtain ⟨r1, t1⟩ := lk od
  refine lc_gen gk (A.step r1 t1) (QA := fun acc m' => ∀ p, p ≠ a → m' p = none → Qm (.ref p) (mput (mput m' a o) p (.lst acc))) ⟨.ref a, ei, o, ds, mput_same, ky, q⟩ fun acc m' L H' qa mL r t hL => ?_
  obtain ⟨z1, z2, z3⟩ := unlock_go A.r e ky h1 h2 mu r t
  have ne : L ≠ a := by
    rintro rfl
    obtain ⟨xs, hL⟩ := hL
    rw [z1] at hL; cases hL
  refine ⟨z1, ?_⟩
  have := qa L ne mL
  rw [mput_comm (Ne.symm ne)] at this
  exact k _ _ _ _ this z2 z3 Rep.ref
/-- for k in d, d the dict in slot i -/
def wForK (i : Nat) (g : TGm) (tb : TSm) : TSm := fun E ρ m => ∃ a o ds, ρ[i]? = some (some (.ref a)) ∧ m a = some o ∧ keysO o ds ∧
  forC (fun _ => True) g tb { nx := fun ρ' m' => E.nx ρ' (mput m' a o), rt := fun d m' => E.rt d (mput m' a o), bk := fun ρ' m' => E.bk ρ' (mput m' a o), ct := fun ρ' m' => E.ct ρ' (mput m' a o) } ds ρ (mput m a (.frz o))
theorem ms_forK {i : Nat} {g : TGm} {tb : TSm} (hp : PassesOwn (model X.prog X.w) X.A X.env X.xe) (hc : X.calm = true) (hi : MX X B iter (wVar i)) (hg : MG X B tg g) (hb : MSs X B body tb)
    (hs : ∀ x, foldedSetIterable iter X.env x = pure x := by intro _; rfl) : MS X B (.For tg iter body [] pos) (wForK i g tb) := psImp (ps_lock (ms_for hp hc (mi_keys hi) hg hb hs)) fun D σ H ⟨ρ, m, E, A, ⟨a, o, ds, ei, e, ky, q⟩, n, rt, bk, ct⟩ => by
  obtain ⟨u, h1, mu, w, lk⟩ := lock_go A.r e ky
  obtain ⟨u', h1', h2⟩ := A.r a o e
  rw [h1] at h1'; cases h1'
  refine ⟨a, u, h1, mu, fun od => ?_⟩
  obtain ⟨r1, t1⟩ := lk od
  refine ⟨ρ, mput m a (.frz o), _, A.step r1 t1, ⟨.ref a, ei, o, ds, mput_same, ky, q⟩, ?_, ?_, ?_, ?_⟩
  · intro ρ' m' σ' H' q' r' t' s'
    obtain ⟨z1, z2, z3⟩ := unlock_go A.r e ky h1 h2 mu r' t'
    refine ⟨z1, n _ _ _ _ q' z2 z3 (s'.stay ?_)⟩
    exact (unlock_tups r' z1 mu)
  · intro d m' v H' q' r' t' x'
    obtain ⟨z1, z2, z3⟩ := unlock_go A.r e ky h1 h2 mu r' t'
    exact ⟨z1, rt _ _ _ _ q' z2 z3 (x'.stay (unlock_tups r' z1 mu))⟩
  · intro ρ' m' σ' H' q' r' t' s'
    obtain ⟨z1, z2, z3⟩ := unlock_go A.r e ky h1 h2 mu r' t'
    exact ⟨z1, bk _ _ _ _ q' z2 z3 (s'.stay (unlock_tups r' z1 mu))⟩
  · intro ρ' m' σ' H' q' r' t' s'
    obtain ⟨z1, z2, z3⟩ := unlock_go A.r e ky h1 h2 mu r' t'
    exact ⟨z1, ct _ _ _ _ q' z2 z3 (s'.stay (unlock_tups r' z1 mu))⟩
/-! ### dict(d) -/
def wDict1 : RLm := fun ds m Q => match ds with
  | [.ref a] => ∃ kvs, rdM m a = some (.dK kvs) ∧ newO (.dK kvs) m Q
  | _ => False
theorem mc_dict1 : MCall X (.type "dict") wDict1 := mcall_of call_dictD fun ds vs H m Q Qm hx r q k => by
  unfold wDict1 at q; split at q
  · obtain ⟨v, e, x⟩ := reps1 hx
    rw [Rep.ref_iff.mp x] at e
    obtain ⟨kvs, e1, q⟩ := q
    obtain ⟨u, h1, xs, rfl, kv⟩ := rd_go r e1
    exact ⟨_, xs, e, h1, new_go q r Step.refl ⟨_, rfl, kv⟩ k⟩
  · exact q.elim
end
end Mm
namespace Mm
open PySem L2
open PyProof.Rows (envOfC)

/-! ### x in y -/
def flD : D → Bool
  | .int _ => true
  | .str _ => true
  | .bl _ => true
  | .non => true
  | _ => false
def eqF : D → D → Bool
  | .int i, .int j => i == j
  | .str i, .str j => i == j
  | .bl i, .bl j => i == j
  | .non, .non => true
  | .bl i, .int j => (if i then 1 else 0) == j
  | .int j, .bl i => j == (if i then 1 else 0)
  | _, _ => false
def seqD (m : Mem) (y : D) (ds : List D) : Prop := y = .tup ds ∨ ∃ a, y = .ref a ∧ rdM m a = some (.lst ds)
/-- x in y gives k -/
def InB (m : Mem) (x y : D) (k : Bool) : Prop :=
  (∃ ds, seqD m y ds ∧ flD x = true ∧ ds.all flD = true ∧ k = ds.any fun z => eqF z x) ∨
  (∃ c z, x = .str ⟨#[c]⟩ ∧ y = .str z ∧ k = decide (c ∈ z.cps.toList)) ∨
  (∃ a o r, y = .ref a ∧ rdM m a = some o ∧ getO o x r ∧ k = r.isSome) ∨
  ∃ t ts, Vw m x t ∧ Vw m y (.list ts) ∧ SeqAt.shaped t = true ∧ SeqAt.shaped (.list ts) = true ∧ k = ts.any fun z => PyData.eqv z t
theorem seqD_go {K : PySem.W.Frag} {H : Hp} {m : Mem} {y : D} {v : V} {ds : List D} (r : RM K H m) (h : seqD m y ds) (x : Rep K H y v) : ∃ p xs, v = .ref p ∧ (SqL K H p xs ∨ SqT K H p xs) ∧ Reps K H ds xs := by
  rcases h with rfl | ⟨a, rfl, e⟩
  · obtain ⟨a, xs, e, s, rr⟩ := Rep.tup_iff.mp x
    exact ⟨a, xs, e, .inr s.sq, rr⟩
  · obtain ⟨xs, s, rr⟩ := rd_lst r e
    exact ⟨a, xs, Rep.ref_iff.mp x, .inl s, rr⟩
theorem flD_flat {K : PySem.W.Frag} {H : Hp} {x : D} {v : V} (h : flD x = true) (r : Rep K H x v) : flatV v = true := by
  cases x with
  | int i => rw [Rep.int_iff.mp r]; rfl
  | str i => rw [Rep.str_iff.mp r]; rfl
  | bl i => rw [Rep.bl_iff.mp r]; rfl
  | non => rw [Rep.non_iff.mp r]; rfl
  | _ => cases h
theorem eqF_eqV {K : PySem.W.Frag} {H : Hp} {x z : D} {v w : V} (hx : flD x = true) (hz : flD z = true) (rx : Rep K H x v) (rz : Rep K H z w) : eqV w v = eqF z x := by
  cases x with
  | int i =>
    rw [Rep.int_iff.mp rx]
    cases z with
    | int j => rw [Rep.int_iff.mp rz]; simp [eqV, eqF]
    | str j => rw [Rep.str_iff.mp rz]; simp [eqV, eqF]
    | bl j => rw [Rep.bl_iff.mp rz]; simp [eqV, eqF]
    | non => rw [Rep.non_iff.mp rz]; simp [eqV, eqF]
    | _ => cases hz
  | str i =>
    rw [Rep.str_iff.mp rx]
    cases z with
    | int j => rw [Rep.int_iff.mp rz]; simp [eqV, eqF]
    | str j => rw [Rep.str_iff.mp rz]; simp [eqV, eqF]
    | bl j => rw [Rep.bl_iff.mp rz]; simp [eqV, eqF]
    | non => rw [Rep.non_iff.mp rz]; simp [eqV, eqF]
    | _ => cases hz
  | bl i =>
    rw [Rep.bl_iff.mp rx]
    cases z with
    | int j => rw [Rep.int_iff.mp rz]; simp [eqV, eqF]
    | str j => rw [Rep.str_iff.mp rz]; simp [eqV, eqF]
    | bl j => rw [Rep.bl_iff.mp rz]; simp [eqV, eqF]
    | non => rw [Rep.non_iff.mp rz]; simp [eqV, eqF]
    | _ => cases hz
  | non =>
    rw [Rep.non_iff.mp rx]
    cases z with
    | int j => rw [Rep.int_iff.mp rz]; simp [eqV, eqF]
    | str j => rw [Rep.str_iff.mp rz]; simp [eqV, eqF]
    | bl j => rw [Rep.bl_iff.mp rz]; simp [eqV, eqF]
    | non => rw [Rep.non_iff.mp rz]; simp [eqV, eqF]
    | _ => cases hz
  | _ => cases hx
theorem inV_go {K : PySem.W.Frag} {H : Hp} {x : D} {v : V} (hx : flD x = true) (rx : Rep K H x v) : ∀ {ds : List D} {xs : List V}, ds.all flD = true → Reps K H ds xs → xs.all flatV = true ∧ inV v xs = ds.any fun z => eqF z x
  | [], _, _, r => by rw [Reps.nil_iff.mp r]; exact ⟨rfl, rfl⟩
  | z :: ds, _, h, r => by
    obtain ⟨w, ws, rfl, r1, r2⟩ := Reps.cons_iff.mp r
    have h1 : flD z = true ∧ ds.all flD = true := by simpa using h
    obtain ⟨i1, i2⟩ := inV_go hx rx h1.2 r2
    refine ⟨by rw [List.all_cons, flD_flat h1.1 r1, i1]; rfl, ?_⟩
    unfold inV at i2 ⊢
    rw [List.any_cons, List.any_cons, i2, eqF_eqV hx h1.1 rx r1]
section
variable {X : Cx}
def rDI (neg : Bool) : R2 := fun y x H Q => ∃ a o, x = .ref a ∧ DGet H a y o ∧ Q (.bl (if neg then !o.isSome else o.isSome)) H
theorem op_inDk (hu : X.A.units + 1 < cLine) : OpR X (compareOp .In) (rDI false) := by
  intro pins s σ H y x v u Q I ry rx h
  obtain ⟨a, o, rfl, g, q⟩ := h
  obtain rfl : u = Value.ref a := rx
  exact d_in hu I g ry fun s3 I3 => ⟨.bl o.isSome, H, I3, rfl, q⟩
theorem op_notinDk (hu : X.A.units + 1 < cLine) : OpR X (compareOp .NotIn) (rDI true) := by
  intro pins s σ H y x v u Q I ry rx h
  obtain ⟨a, o, rfl, g, q⟩ := h
  obtain rfl : u = Value.ref a := rx
  exact d_notIn hu I g ry fun s3 I3 => ⟨.bl (!o.isSome), H, I3, rfl, q⟩
def wInn : R2m := fun x y m Q => ∃ k, InB m x y k ∧ Q (.bl k) m
def wNotInn : R2m := fun x y m Q => ∃ k, InB m x y k ∧ Q (.bl (!k)) m
theorem mo_in {k : Nat} (hr : Room k X.A) : MOp X (compareOp .In) wInn := mop_of (OpR.or op_in_seq (OpR.or op_in_sign (OpR.or (op_inDk (hu1 hr)) (op_inD (hu65 hr))))) fun x y v w H m Q Qm hx hy r q k => by
  obtain ⟨b, h, q⟩ := q
  have fin := k _ _ _ _ q r Step.refl Rep.bl
  rcases h with ⟨ds, sd, fx, fa, e⟩ | ⟨c, z, rfl, rfl, e⟩ | ⟨a, o, ro, rfl, e1, g, e⟩ | ⟨t, ts, h1, h2, s1, s2, e⟩
  · obtain ⟨p, xs, e1, s, rr⟩ := seqD_go r sd hy
    obtain ⟨i1, i2⟩ := inV_go fx hx fa rr
    exact .inl ⟨p, xs, e1, s, flD_flat fx hx, i1, by rw [i2, ← e]; exact fin⟩
  · exact .inr (.inl ⟨c, z, Rep.str_iff.mp hx, Rep.str_iff.mp hy, by rw [← e]; exact fin⟩)
  · obtain ⟨r', g', h1, h2⟩ := get_go r e1 g hx
    have e2 : r'.isSome = ro.isSome := by
      cases ro with
      | none => rw [h2 rfl]; rfl
      | some d => obtain ⟨w', e2, _⟩ := h1 d rfl; rw [e2]; rfl
    exact .inr (.inr (.inl ⟨a, r', Rep.ref_iff.mp hy, g', by rw [e2, ← e]; exact fin⟩))
  · exact .inr (.inr (.inr ⟨t, ts, h1.dp r _ _ _ hx, h2.dp r _ _ _ hy, s1, s2, by rw [← e]; exact fin⟩))
theorem mo_notin {k : Nat} (hr : Room k X.A) : MOp X (compareOp .NotIn) wNotInn := mop_of (OpR.or op_notIn_seq (OpR.or op_notIn_sign (OpR.or (op_notinDk (hu1 hr)) (op_notInD (hu65 hr))))) fun x y v w H m Q Qm hx hy r q k => by
  obtain ⟨b, h, q⟩ := q
  have fin := k _ _ _ _ q r Step.refl Rep.bl
  rcases h with ⟨ds, sd, fx, fa, e⟩ | ⟨c, z, rfl, rfl, e⟩ | ⟨a, o, ro, rfl, e1, g, e⟩ | ⟨t, ts, h1, h2, s1, s2, e⟩
  · obtain ⟨p, xs, e1, s, rr⟩ := seqD_go r sd hy
    obtain ⟨i1, i2⟩ := inV_go fx hx fa rr
    exact .inl ⟨p, xs, e1, s, flD_flat fx hx, i1, by rw [if_pos rfl, i2, ← e]; exact fin⟩
  · exact .inr (.inl ⟨c, z, Rep.str_iff.mp hx, Rep.str_iff.mp hy, by rw [← e]; exact fin⟩)
  · obtain ⟨r', g', h1, h2⟩ := get_go r e1 g hx
    have e2 : r'.isSome = ro.isSome := by
      cases ro with
      | none => rw [h2 rfl]; rfl
      | some d => obtain ⟨w', e2, _⟩ := h1 d rfl; rw [e2]; rfl
    exact .inr (.inr (.inl ⟨a, r', Rep.ref_iff.mp hy, g', by rw [if_pos rfl, e2, ← e]; exact fin⟩))
  · exact .inr (.inr (.inr ⟨t, ts, h1.dp r _ _ _ hx, h2.dp r _ _ _ hy, s1, s2, by rw [← e]; exact fin⟩))
end
section
variable {m : Mem} {Q : KM} {x y : D}
theorem i_in {k : Bool} (e : InB m x y k) (h : Q (.bl k) m) : wInn x y m Q := ⟨k, e, h⟩
theorem i_notin {k : Bool} (e : InB m x y k) (h : Q (.bl (!k)) m) : wNotInn x y m Q := ⟨k, e, h⟩
theorem in_tup {ds : List D} (h1 : flD x = true) (h2 : ds.all flD = true) : InB m x (.tup ds) (ds.any fun z => eqF z x) := .inl ⟨ds, .inl rfl, h1, h2, rfl⟩
theorem in_lst {a : Addr} {ds : List D} (e : rdM m a = some (.lst ds)) (h1 : flD x = true) (h2 : ds.all flD = true) : InB m x (.ref a) (ds.any fun z => eqF z x) := .inl ⟨ds, .inr ⟨a, rfl, e⟩, h1, h2, rfl⟩
theorem in_sign {c : Nat} {z : Str} : InB m (.str ⟨#[c]⟩) (.str z) (decide (c ∈ z.cps.toList)) := .inr (.inl ⟨c, z, rfl, rfl, rfl⟩)
theorem in_dK {a : Addr} {kvs : List (Key × D)} {k : Key} (e : rdM m a = some (.dK kvs)) : InB m (kD k) (.ref a) (valD kvs k).isSome := .inr (.inr (.inl ⟨a, _, _, rfl, e, ⟨k, rfl, rfl⟩, rfl⟩))
end
end Mm
namespace Mm
open PySem L2
open PyProof.Rows (envOfC)
section
variable {m : Mem} {a : Addr}
theorem rd_K {kvs : List (Key × D)} (h : m a = some (.dK kvs)) : rdM m a = some (.dK kvs) := rd_of h trivial
theorem rd_T {kvs : List (List Key × D)} (h : m a = some (.dT kvs)) : rdM m a = some (.dT kvs) := rd_of h trivial
theorem rd_L {ds : List D} (h : m a = some (.lst ds)) : rdM m a = some (.lst ds) := rd_of h trivial
theorem rd_I {C : Addr} {fs : List (Str × D)} (h : m a = some (.ins C fs)) : rdM m a = some (.ins C fs) := rd_of h trivial
end
section
variable {E : EndsM} {ρ : StM} {m : Mem} {Q : KM} {chk : Mem → Prop} {g : TGm} {tb : TSm} {ds : List D} {tt : TTm} {te : TEm} {vs : List Nat}
theorem i_for {ti : TIm} (h : ti ρ m fun ds chk m1 => forC chk g tb E ds ρ m1) : wFor ti g tb E ρ m := h
theorem i_lc {ti : TIm} (h : ti ρ m fun ds chk m1 => lcC chk g tt te vs ρ (fun acc m' => newO (.lst acc) m' Q) ds [] m1) : wLc ti g tt te vs ρ m Q := h
/-- a loop, by what holds ahead of the items that are left -/
theorem forC_ind (P : List D → StM → Mem → Prop) (h0 : P ds ρ m) (hn : ∀ ρ m, P [] ρ m → chk m ∧ E.nx ρ m)
    (hc : ∀ d r ρ m (K : StM → Mem → Prop), (∀ ρ m, P r ρ m → K ρ m) → P (d :: r) ρ m → chk m ∧ g d ρ m fun ρ2 m2 => tb { E with nx := K, ct := K, bk := E.nx } ρ2 m2) : forC chk g tb E ds ρ m := by
  induction ds generalizing ρ m with
  | nil => exact hn ρ m h0
  | cons d r ih => exact hc d r ρ m _ (fun ρ m h => ih h) h0
/-- a comprehension, likewise -/
theorem lcC_ind {QA : List D → Mem → Prop} {acc : List D} (P : List D → List D → Mem → Prop) (h0 : P ds acc m) (hn : ∀ acc m, P [] acc m → chk m ∧ QA acc m)
    (hc : ∀ d r acc m (K : List D → Mem → Prop), (∀ acc m, P r acc m → K acc m) → P (d :: r) acc m → chk m ∧ g d (wipeM ρ vs) m fun ρ2 m2 => wipeM ρ2 vs = wipeM ρ vs ∧ tt ρ2 m2 fun b m3 => if b = true then te ρ2 m3 fun y m4 => acc.length < sizeLine ∧ K (acc ++ [y]) m4 else K acc m3) :
    lcC chk g tt te vs ρ QA ds acc m := by
  induction ds generalizing acc m with
  | nil => exact hn acc m h0
  | cons d r ih => exact hc d r acc m _ (fun acc m h => ih h) h0
/-- a comprehension whose element is reckoned and changes nothing -/
theorem lcC_pure {QA : List D → Mem → Prop} (f : D → D) (hl : ds.length ≤ sizeLine) (hk : chk m) (hb : ∀ d ∈ ds, ∀ R : KM, R (f d) m → g d (wipeM ρ vs) m fun ρ2 m2 => wipeM ρ2 vs = wipeM ρ vs ∧ te ρ2 m2 R) (q : QA (ds.map f) m) :
    lcC chk g wYes te vs ρ QA ds [] m := by
  refine lcC_ind (fun r acc m' => m' = m ∧ ∃ p, ds = p ++ r ∧ acc = p.map f) ⟨rfl, [], by simp, rfl⟩ ?_ ?_
  · rintro acc m' ⟨rfl, p, e, rfl⟩
    rw [List.append_nil] at e
    subst e
    exact ⟨hk, q⟩
  · rintro d r acc m' K hK ⟨rfl, p, e, rfl⟩
    refine ⟨hk, ?_⟩
    have hd : d ∈ ds := by rw [e]; simp
    have := hb d hd (fun y m4 => (p.map f).length < sizeLine ∧ K (p.map f ++ [y]) m4) ⟨by
      have : ds.length = p.length + (r.length + 1) := by rw [e]; simp
      rw [List.length_map]; omega, hK _ _ ⟨rfl, p ++ [d], by rw [e]; simp, by simp⟩⟩
    exact this
/-- .. with a test -/
theorem lcC_pureIf {QA : List D → Mem → Prop} (f : D → D) (c : D → Bool) (hl : ds.length ≤ sizeLine) (hk : chk m)
    (hb : ∀ d ∈ ds, ∀ R : Bool → Mem → KM → Prop, (R (c d) m fun y m2 => y = f d ∧ m2 = m) → True) (q : QA ((ds.filter c).map f) m)
    (ht : ∀ d ∈ ds, ∀ (R : List D → Mem → Prop) (acc : List D), acc.length < sizeLine → (if c d = true then R (acc ++ [f d]) m else R acc m) → g d (wipeM ρ vs) m fun ρ2 m2 => wipeM ρ2 vs = wipeM ρ vs ∧ tt ρ2 m2 fun b m3 => if b = true then te ρ2 m3 fun y m4 => acc.length < sizeLine ∧ R (acc ++ [y]) m4 else R acc m3) :
    lcC chk g tt te vs ρ QA ds [] m := by
  refine lcC_ind (fun r acc m' => m' = m ∧ ∃ p, ds = p ++ r ∧ acc = (p.filter c).map f) ⟨rfl, [], by simp, rfl⟩ ?_ ?_
  · rintro acc m' ⟨rfl, p, e, rfl⟩
    rw [List.append_nil] at e
    subst e
    exact ⟨hk, q⟩
  · rintro d r acc m' K hK ⟨rfl, p, e, rfl⟩
    refine ⟨hk, ?_⟩
    have hd : d ∈ ds := by rw [e]; simp
    have hlen : ((p.filter c).map f).length < sizeLine := by
      have h1 : ds.length = p.length + (r.length + 1) := by rw [e]; simp
      have h2 := List.length_filter_le c p
      rw [List.length_map]; omega
    refine ht d hd K _ hlen ?_
    cases hcd : c d with
    | true => rw [if_pos rfl]; exact hK _ _ ⟨rfl, p ++ [d], by rw [e]; simp, by simp [hcd]⟩
    | false => rw [if_neg Bool.false_ne_true]; exact hK _ _ ⟨rfl, p ++ [d], by rw [e]; simp, by simp [hcd]⟩
theorem i_iL {a : Addr} {R : List D → (Mem → Prop) → Mem → Prop} (e : rdM m a = some (.lst ds)) (h : R ds (fun m' => rdM m' a = some (.lst ds)) m) : ∃ ds, rdM m a = some (.lst ds) ∧ R ds (fun m' => rdM m' a = some (.lst ds)) m := ⟨ds, e, h⟩
/-- over a new list, forgotten while it is walked -/
theorem i_iH {a : Addr} {m0 : Mem} {R : List D → (Mem → Prop) → Mem → Prop} (hm : m = mput m0 a (.lst ds)) (hn : m0 a = none) (h : R ds (fun _ => True) m0) : ∃ ds m0, rdM m a = some (.lst ds) ∧ Sub m0 m ∧ Nm m0 a ∧ R ds (fun _ => True) m0 := by
  subst hm
  exact ⟨ds, m0, rd_of mput_same trivial, fun b o e => mput_new hn e, .inl hn, h⟩
end
end Mm
namespace Mm
open PySem L2
open PyProof.Rows (envOfC)
theorem mput_off {m : Mem} {a b : Addr} {o o' : O} (h : a ≠ b) (e : m a = some o) : mput m b o' a = some o := (mput_ne h).trans e
theorem mput_off' {m : Mem} {a b : Addr} {o o' : O} (h : b ≠ a) (e : m a = some o) : mput m b o' a = some o := (mput_ne h.symm).trans e
def keyP (p : D × D) : Key × D := (match p.1 with | .str s => .inr s | .int i => .inl i | _ => .inl 0, p.2)
theorem i_disp {ps : List (TEm × TEm)} {ρ : StM} {m : Mem} {Q : KM} (h : wPairs ps ρ m fun prs m' => ∃ kvs : List (Key × D), prs = kvs.map (fun kv => (kD kv.1, kv.2)) ∧ kvs.length ≤ 15 ∧ newO (.dK (mergeD [] kvs)) m' Q) : wDisp ps ρ m Q := h
theorem i_pN {ρ : StM} {m : Mem} {Q : List (D × D) → Mem → Prop} (h : Q [] m) : wPairs [] ρ m Q := h
theorem i_pC {tk tv : TEm} {r : List (TEm × TEm)} {ρ : StM} {m : Mem} {Q : List (D × D) → Mem → Prop} (h : tk ρ m fun x m1 => tv ρ m1 fun y m2 => wPairs r ρ m2 fun ps m3 => Q ((x, y) :: ps) m3) : wPairs ((tk, tv) :: r) ρ m Q := h
theorem i_dispE {prs : List (D × D)} {m : Mem} {Q : KM} (e : prs = (prs.map keyP).map fun kv => (kD kv.1, kv.2)) (z : prs.length ≤ 15) (h : newO (.dK (mergeD [] (prs.map keyP))) m Q) : ∃ kvs : List (Key × D), prs = kvs.map (fun kv => (kD kv.1, kv.2)) ∧ kvs.length ≤ 15 ∧ newO (.dK (mergeD [] kvs)) m Q := ⟨_, e, by rw [List.length_map]; exact z, h⟩
theorem ty_L {m : Mem} {a : Addr} {ds : List D} (e : rdM m a = some (.lst ds)) : tyD m (.ref a) = some "list" := by
  unfold rdM at e
  show (match m a with | some (.lst _) => some "list" | some (.dK _) => some "dict" | some (.dT _) => some "dict" | some (.frz (.lst _)) => some "list" | _ => none) = _
  cases q : m a with
  | none => rw [q] at e; cases e
  | some o =>
    rw [q] at e
    cases o with
    | frz o => cases e; rfl
    | _ => cases e <;> rfl
theorem ty_K {m : Mem} {a : Addr} {kvs : List (Key × D)} (e : m a = some (.dK kvs)) : tyD m (.ref a) = some "dict" := by
  show (match m a with | some (.lst _) => some "list" | some (.dK _) => some "dict" | some (.dT _) => some "dict" | some (.frz (.lst _)) => some "list" | _ => none) = _
  rw [e]
theorem i_powL {i j : Int} {m : Mem} {Q : KM} {g : Int → Int → D} (c : 0 ≤ j ∧ j ≤ 1000000 ∧ i.natAbs < 18446744073709551616) (h : Q (g i j) m) : wI CPow g (.int i) (.int j) m Q := ⟨c, h⟩
theorem i_timesLL {i j : Int} {m : Mem} {Q : KM} (c : (-18446744073709551616 < i ∧ i < 18446744073709551616) ∨ (-18446744073709551616 < j ∧ j < 18446744073709551616)) (h : Q (.int (i * j)) m) : wTimes (.int i) (.int j) m Q := ⟨.inl c, h⟩
theorem i_divW {i j : Int} {m : Mem} {Q : KM} {g : Int → Int → D} (c : 0 < j) (c2 : j < 9223372036854775808) (h : Q (g i j) m) : wI CDivW g (.int i) (.int j) m Q := ⟨⟨c, by
  have := PySem.Flt.log2_lt_of (n := j.natAbs) (k := 63) (by decide) (by omega)
  omega⟩, h⟩
theorem i_mod {i j : Int} {m : Mem} {Q : KM} {g : Int → Int → D} (c : 0 < j) (h : Q (g i j) m) : wI (fun _ j => 0 < j) g (.int i) (.int j) m Q := ⟨c, h⟩
/-! ### where the law begins: the script, as it stands -/
theorem law_start {K : PySem.W.Frag} {H : Hp} {a : Addr} {ns : List Int} (h : SqL K H a (ns.map V.int)) : ∃ m, RM K H m ∧ LsK K m a ns := by
  rcases h with (h | ⟨o, h⟩) | h
  · refine ⟨fun b => if b = a then some (.lst (ns.map .int)) else none, fun b o e => ?_, .inl ?_⟩
    · by_cases c : b = a
      · subst c
        dsimp only at e
        rw [if_pos rfl] at e; cases e
        exact ⟨_, h, _, rfl, Reps.ints ns⟩
      · dsimp only at e
        rw [if_neg c] at e; cases e
    · exact rd_L (if_pos rfl)
  · refine ⟨fun b => if b = a then some (.frz (.lst (ns.map .int))) else none, fun b o e => ?_, .inl ?_⟩
    · by_cases c : b = a
      · subst c
        dsimp only at e
        rw [if_pos rfl] at e; cases e
        exact ⟨_, h, _, _, rfl, _, rfl, Reps.ints ns⟩
      · dsimp only at e
        rw [if_neg c] at e; cases e
    · exact rd_frz (if_pos rfl)
  · refine ⟨fun _ => none, fun b o e => ?_, Or.inr h⟩
    cases e
/-- what law(script) promises -/
def spLaw (K : PySem.W.Frag) : SpM := fun ds m Q _ => ∃ (c : Addr) (ns : List Int), ds = [.ref c] ∧ LsK K m c ns ∧ ns.length ≤ 63 ∧ ∀ m', Q (.bl true) m'
theorem spLaw_start {K : PySem.W.Frag} {H : Hp} {a : Addr} {ns : List Int} (hl : ns.length ≤ 63) (h : SqL K H a (ns.map V.int)) : liftSp K (spLaw K) [.ref a] H (fun v _ => v = .bl true) fun _ _ _ => False := by
  obtain ⟨m, r, l⟩ := law_start h
  refine ⟨[.ref a], m, fun d _ => d = .bl true, fun _ _ => False, Reps.cons Rep.ref Reps.nil, r, ⟨a, ns, rfl, l, hl, fun _ => rfl⟩, fun d m' v H' e _ _ x => ?_, fun _ _ _ _ z => z.elim⟩
  subst e
  exact Rep.bl_iff.mp x
end Mm
namespace Mm
open PySem L2
open PyProof.Rows (envOfC)
section
variable {X : Cx} {B : Bs} {e o : Expr} {pos apos : Pos} {pa pb : TEm}
theorem atI_cons {α : Type} {xs : List α} {i : Nat} {x : α} (h : xs[i]? = some x) : atI xs (i : Int) = some x := atI_nat h
theorem i_sub0 {m : Mem} {Q : KM} {d : D} {ds : List D} (h : Q d m) : wSub (.tup (d :: ds)) (.int 0) m Q := ⟨d, atI_cons (i := 0) rfl, h⟩
theorem i_sub1 {m : Mem} {Q : KM} {x d : D} {ds : List D} (h : Q d m) : wSub (.tup (x :: d :: ds)) (.int 1) m Q := ⟨d, atI_cons (i := 1) rfl, h⟩
theorem i_sub2 {m : Mem} {Q : KM} {x y d : D} {ds : List D} (h : Q d m) : wSub (.tup (x :: y :: d :: ds)) (.int 2) m Q := ⟨d, atI_cons (i := 2) rfl, h⟩
/-! ### str, join -/
def wStr1 : RLm := fun ds m Q => match ds with
  | [.int i] => i.natAbs.log2 < 1920 ∧ Q (.str (Str.ofString (toString i))) m
  | [.str x] => Q (.str x) m
  | _ => False
theorem mc_str1 : MCall X (.type "str") wStr1 := mcall_of (CallR.or call_str_int SkE.call_str_str) fun ds vs H m Q Qm hx r q k => by
  unfold wStr1 at q; split at q
  · obtain ⟨v, e, x⟩ := reps1 hx
    rw [Rep.int_iff.mp x] at e
    exact .inl ⟨_, e, q.1, k _ _ _ _ q.2 r Step.refl Rep.str⟩
  · obtain ⟨v, e, x⟩ := reps1 hx
    rw [Rep.str_iff.mp x] at e
    exact .inr ⟨_, e, k _ _ _ _ q r Step.refl Rep.str⟩
  · exact q.elim
def strAt (d : D) (k : Str → Prop) : Prop := match d with
  | .str a => k a
  | _ => False
theorem i_strAt {a : Str} {k : Str → Prop} (h : k a) : strAt (.str a) k := h
theorem Reps.strs {K : PySem.W.Frag} {H : Hp} : ∀ {ys : List Str} {vs : List V}, Reps K H (ys.map .str) vs → vs = ys.map V.str
  | [], _, h => Reps.nil_iff.mp h
  | y :: ys, _, h => by
    obtain ⟨v, w, rfl, a, b⟩ := Reps.cons_iff.mp h
    rw [Rep.str_iff.mp a, Reps.strs b]; rfl
def wJoinV (a : Str) (y : D) (m : Mem) (Q : KM) : Prop := refAt y fun p => ∃ ys : List Str, rdM m p = some (.lst (ys.map .str)) ∧ (ys.map (·.length)).sum + ys.length * a.length ≤ 16777216 ∧ Q (.str (Txt.join a ys)) m
def wJoin (pa pb : TEm) : TEm := fun ρ m Q => pa ρ m fun x m1 => strAt x fun a => pb ρ m1 fun y m2 => wJoinV a y m2 Q
theorem mx_join (ho : MX X B o pa) (he : MX X B e pb) (hs : starEach [e] X.env = [(false, eval e X.env)] := by rfl) (hbase : attributeBase o "join" X.env (eval o X.env) = eval o X.env := by rfl) (hline : (apos.endLine == pos.line) = true := by rfl) :
    MX X B (.Call (.Attribute o "join" apos) [e] [] pos) (wJoin pa pb) := peImp (pe_join ho he hs hbase hline) fun σ H Q ⟨ρ, m, Qm, A, q, k⟩ => by
  refine ⟨ρ, m, _, A, q, fun x m1 v H1 q1 r1 t1 x1 => ?_⟩
  unfold strAt at q1
  split at q1
  · refine ⟨⟨_, Rep.str_iff.mp x1⟩, ρ, m1, _, A.step r1 t1, q1, fun y m2 w H2 q2 r2 t2 x2 => ?_⟩
    unfold wJoinV refAt at q2
    split at q2
    · obtain ⟨ys, e1, z, q2⟩ := q2
      obtain ⟨xs, s, rr⟩ := rd_lst r2 e1
      rw [Reps.strs rr] at s
      exact ⟨_, _, ys, Rep.str_iff.mp x1, by rw [Rep.ref_iff.mp x2], .inl s, z, k _ _ _ _ q2 r2 (t1.trans t2) Rep.str⟩
    · exact q2.elim
  · exact q1.elim
end
end Mm
namespace Mm
open PySem L2
open PyProof.Rows (envOfC)

/-! ### the order of flat tuples -/
def kLt : Key → Key → Bool
  | .inl i, .inl j => decide (i < j)
  | .inr x, .inr y => decide (x.cps.toList < y.cps.toList)
  | .inl _, .inr _ => true
  | .inr _, .inl _ => false
def lexK : List Key → List Key → Bool
  | [], [] => false
  | [], _ :: _ => true
  | _ :: _, [] => false
  | a :: r, b :: s => if a = b then lexK r s else kLt a b
theorem str_ext {x y : Str} (h : x.cps.toList = y.cps.toList) : x = y := by
  cases x; cases y
  simp only [Str.mk.injEq]
  exact Array.toList_inj.mp h
theorem lt_irr (l : List Nat) : ¬ l < l := List.lt_irrefl l
theorem lt_as {l k : List Nat} (h : l < k) : ¬ k < l := List.lt_asymm h
theorem lt_tr {a b c : List Nat} (h : a < b) (h2 : b < c) : a < c := List.lt_trans h h2
theorem lt_tri {l k : List Nat} (h : ¬ l < k) (h2 : ¬ k < l) : l = k := List.le_antisymm h2 h
theorem kLt_irr (a : Key) : kLt a a = false := by
  cases a with
  | inl i => exact decide_eq_false (by omega)
  | inr x => exact decide_eq_false (lt_irr _)
theorem kLt_as : ∀ {a b : Key}, kLt a b = true → kLt b a = false
  | .inl _, .inl _, h => decide_eq_false (by have := of_decide_eq_true h; omega)
  | .inr _, .inr _, h => decide_eq_false (lt_as (of_decide_eq_true h))
  | .inl _, .inr _, _ => rfl
  | .inr _, .inl _, h => Bool.noConfusion h
theorem kLt_tr : ∀ {a b c : Key}, kLt a b = true → kLt b c = true → kLt a c = true
  | .inl _, .inl _, .inl _, h, h2 => decide_eq_true (by have := of_decide_eq_true h; have := of_decide_eq_true h2; omega)
  | .inr _, .inr _, .inr _, h, h2 => decide_eq_true (lt_tr (of_decide_eq_true h) (of_decide_eq_true h2))
  | .inl _, _, .inr _, _, _ => rfl
  | .inr _, .inl _, _, h, _ => Bool.noConfusion h
  | _, .inr _, .inl _, _, h2 => Bool.noConfusion h2
theorem kLt_tri : ∀ {a b : Key}, kLt a b = false → kLt b a = false → a = b
  | .inl _, .inl _, h, h2 => congrArg Sum.inl (by have := of_decide_eq_false h; have := of_decide_eq_false h2; omega)
  | .inr _, .inr _, h, h2 => congrArg Sum.inr (str_ext (lt_tri (of_decide_eq_false h) (of_decide_eq_false h2)))
  | .inl _, .inr _, h, _ => Bool.noConfusion h
  | .inr _, .inl _, _, h => Bool.noConfusion h
theorem lexK_irr : ∀ a : List Key, lexK a a = false
  | [] => rfl
  | a :: r => by simp only [lexK, if_true]; exact lexK_irr r
theorem lexK_as : ∀ {a b : List Key}, lexK a b = true → lexK b a = false
  | [], [], h => by cases h
  | [], _ :: _, _ => rfl
  | _ :: _, [], h => by cases h
  | a :: r, b :: s, h => by
    simp only [lexK] at h ⊢
    by_cases c : a = b
    · subst c
      simp only [if_true] at h ⊢
      exact lexK_as h
    · rw [if_neg c] at h
      rw [if_neg (fun z => c z.symm)]
      exact kLt_as h
theorem lexK_tri : ∀ {a b : List Key}, lexK a b = false → lexK b a = false → a = b
  | [], [], _, _ => rfl
  | [], _ :: _, h, _ => by cases h
  | _ :: _, [], _, h => by cases h
  | a :: r, b :: s, h, h2 => by
    simp only [lexK] at h h2
    by_cases c : a = b
    · subst c
      simp only [if_true] at h h2
      rw [lexK_tri h h2]
    · rw [if_neg c] at h
      rw [if_neg (fun z => c z.symm)] at h2
      exact absurd (kLt_tri h h2) c
theorem lexK_tr : ∀ {a b c : List Key}, lexK a b = true → lexK b c = true → lexK a c = true
  | [], [], _, h, _ => by cases h
  | [], _ :: _, [], _, h => by cases h
  | [], _ :: _, _ :: _, _, _ => rfl
  | _ :: _, [], _, h, _ => by cases h
  | _ :: _, _ :: _, [], _, h => by cases h
  | a :: r, b :: s, c :: t, h, h2 => by
    simp only [lexK] at h h2 ⊢
    by_cases e1 : a = b
    · subst e1
      simp only [if_true] at h
      by_cases e2 : a = c
      · subst e2
        simp only [if_true] at h2 ⊢
        exact lexK_tr h h2
      · rw [if_neg e2] at h2 ⊢; exact h2
    · rw [if_neg e1] at h
      by_cases e2 : b = c
      · subst e2
        rw [if_neg e1]; exact h
      · rw [if_neg e2] at h2
        have h3 := kLt_tr h h2
        have : a ≠ c := by
          rintro rfl
          rw [kLt_irr] at h3; cases h3
        rw [if_neg this]; exact h3
/-- sorted -/
def SrtK (l : List (List Key)) : Prop := l.Pairwise fun x y => lexK y x = false
theorem srtK_uniq : ∀ {l m : List (List Key)}, SrtK l → SrtK m → l.Perm m → l = m
  | [], m, _, _, p => (List.Perm.eq_nil p.symm).symm
  | x :: l, [], _, _, p => absurd p.length_eq (by simp)
  | x :: l, y :: m, hl, hm, p => by
    have hl' := List.pairwise_cons.mp hl
    have hm' := List.pairwise_cons.mp hm
    have h1 : lexK y x = false := by
      rcases List.mem_cons.mp (p.mem_iff.mpr (List.mem_cons_self (a := y) (l := m))) with e | h
      · rw [e]; exact lexK_irr x
      · exact hl'.1 y h
    have h2 : lexK x y = false := by
      rcases List.mem_cons.mp (p.mem_iff.mp (List.mem_cons_self (a := x) (l := l))) with e | h
      · rw [e]; exact lexK_irr y
      · exact hm'.1 x h
    have e := lexK_tri h2 h1
    subst e
    rw [srtK_uniq hl'.2 hm'.2 p.cons_inv]
theorem lexK_neg {x y z : List Key} (h1 : lexK y x = false) (h2 : lexK z y = false) : lexK z x = false := by
  cases h : lexK z x with
  | false => rfl
  | true =>
    cases h3 : lexK x y with
    | true => rw [lexK_tr h h3] at h2; cases h2
    | false =>
      have := lexK_tri h3 h1
      subst this
      rw [h2] at h; cases h
/-- of one kind, place by place -/
def sameSh : List Key → List Key → Prop
  | [], [] => True
  | .inl _ :: r, .inl _ :: s => sameSh r s
  | .inr _ :: r, .inr _ :: s => sameSh r s
  | _, _ => False
theorem sameSh_len : ∀ {a b : List Key}, sameSh a b → a.length = b.length
  | [], [], _ => rfl
  | .inl _ :: r, .inl _ :: s, h => congrArg (· + 1) (sameSh_len (a := r) (b := s) h)
  | .inr _ :: r, .inr _ :: s, h => congrArg (· + 1) (sameSh_len (a := r) (b := s) h)
  | [], _ :: _, h => by cases h
  | _ :: _, [], h => by simp only [sameSh] at h
  | .inl _ :: _, .inr _ :: _, h => by simp only [sameSh] at h
  | .inr _ :: _, .inl _ :: _, h => by simp only [sameSh] at h
section
variable {prog : Program} {w : World} {A : Around} {E : Value → Shared → Prop} {s : Shared} {Q : Bool → Shared → Prop}
theorem oneLt_strs (c : Bool) {p q : Str} {t u : Tok} (h : Q (decide (p.cps.toList < q.cps.toList)) s) : wpAny (model prog w) A (PyProof.Rows.oneLt' c (.str p t) (.str q u)) Q E s := by
  cases c with
  | true => exact PyProof.Rows.oneLt_str h
  | false => exact PySem.W.kat_one _ _ (PyProof.Rows.lt_str (Q := PySem.W.BoolBack Q) h)
theorem katlex_cols (b : Bool) : ∀ {ks ls : List Key} {us ws : List Value} (i : Nat), Vals (ks.map kV) us → Vals (ls.map kV) ws → sameSh ks ls → Q (lexK ks ls) s → PySem.W.KatLex prog w A b false Q (us.zip ws) i s
  | [], [], _, _, i, ru, rw, _, h => by
    cases ru; cases rw
    exact PySem.W.kat_nil h
  | .inl x :: ks, .inl y :: ls, _, _, i, ru, rw, sh, h => by
    cases ru with
    | cons r1 ru =>
    cases rw with
    | cons r2 rw =>
    obtain ⟨t1, rfl⟩ := r1
    obtain ⟨t2, rfl⟩ := r2
    refine PySem.W.kat_cons (SeqAt.EqAt.int_int x t1 y t2 prog w _ _ ?_)
    refine PySem.W.kat_go (fun e1 => ?_) (fun e1 => ?_)
    · have ex : x = y := by simpa using e1
      subst ex
      refine PySem.W.kat_yes (katlex_cols b (i + 1) ru rw sh ?_)
      simpa only [lexK, if_true] using h
    · have ex : ¬ x = y := by simpa using e1
      refine PySem.W.kat_no (TS.oneLt_ints _ ?_)
      have : ¬ (Sum.inl x : Key) = .inl y := fun z => ex (Sum.inl.inj z)
      simpa only [lexK, if_neg this, kLt] using h
  | .inr x :: ks, .inr y :: ls, _, _, i, ru, rw, sh, h => by
    cases ru with
    | cons r1 ru =>
    cases rw with
    | cons r2 rw =>
    obtain ⟨t1, rfl⟩ := r1
    obtain ⟨t2, rfl⟩ := r2
    refine PySem.W.kat_cons (SeqAt.EqAt.str_str x t1 y t2 prog w _ _ ?_)
    refine PySem.W.kat_go (fun e1 => ?_) (fun e1 => ?_)
    · have ex : x = y := by simpa using e1
      subst ex
      refine PySem.W.kat_yes (katlex_cols b (i + 1) ru rw sh ?_)
      simpa only [lexK, if_true] using h
    · have ex : ¬ x = y := by simpa using e1
      refine PySem.W.kat_no (oneLt_strs _ ?_)
      have : ¬ (Sum.inr x : Key) = .inr y := fun z => ex (Sum.inr.inj z)
      simpa only [lexK, if_neg this, kLt] using h
  | .inl _ :: _, .inr _ :: _, _, _, _, _, _, sh, _ => by simp only [sameSh] at sh
  | .inr _ :: _, .inl _ :: _, _, _, _, _, _, sh, _ => by simp only [sameSh] at sh
  | [], _ :: _, _, _, _, _, _, sh, _ => by simp only [sameSh] at sh
  | _ :: _, [], _, _, _, _, _, sh, _ => by simp only [sameSh] at sh
/-- a tuple of a heap, flat -/
def IsFt (h : Heap) (v : Value) (ks : List Key) : Prop := ∃ a o n its, v = .ref a ∧ h.get? a = some o ∧ o.cls = .type "tuple" ∧ o.data = .seq its n ∧ Vals (ks.map kV) its.toList
theorem IsFt.keeps {h h' : Heap} {v : Value} {ks : List Key} (p : IsFt h v ks) (k : ∀ b o, h.get? b = some o → o.cls = .type "tuple" → h'.get? b = some o) : IsFt h' v ks := by
  obtain ⟨a, o, n, its, e, ho, hc, hd, r⟩ := p
  exact ⟨a, o, n, its, e, k _ _ ho hc, hc, hd, r⟩
theorem ft_cmp {b : Bool} {vs : List Value} {k : Value → List Key} (hp : ∀ v ∈ vs, IsFt s.heap v (k v)) (sh : ∀ v ∈ vs, ∀ u ∈ vs, sameSh (k v) (k u)) : SrtO.Cmp prog w A s (PyProof.Rows.tuples' b) (fun p => p.1 ∈ vs) (SrtO.lt2 fun v u => lexK (k v) (k u)) := by
  intro p q hm hm'
  have h1 := hp _ hm
  have h2 := hp _ hm'
  have hs := sh _ hm _ hm'
  show wpAny (model prog w) A (PyProof.Rows.keyLt' (PyProof.Rows.tuples' b) p.1 q.1) (fun r s' => s' = s ∧ r = lexK (k p.1) (k q.1)) (fun _ _ => False) s
  generalize k p.1 = ks at h1 hs ⊢
  generalize k q.1 = ls at h2 hs ⊢
  obtain ⟨a, o, n, its, e, ho, hc, hd, r1⟩ := h1
  obtain ⟨a', o', n', its', e', ho', hc', hd', r2⟩ := h2
  rw [e, e']
  refine PySem.W.kat_lt ho hd ho' hd' ?_
  have hz : decide (its.size < its'.size) = false := by
    have l1 := r1.length
    have l2 := r2.length
    have l3 := sameSh_len hs
    rw [List.length_map] at l1 l2
    have e1 : its.size = its.toList.length := by simp
    have e2 : its'.size = its'.toList.length := by simp
    exact decide_eq_false (by omega)
  rw [hz]
  exact katlex_cols _ 0 r1 r2 hs ⟨rfl, rfl⟩
theorem ft_firsts {h : Heap} : ∀ {vs : List Value} {ks : Value → List Key} {T : Bool}, (∀ v ∈ vs, IsFt h v (ks v)) → (∀ v ∈ vs, ∃ a r, ks v = a :: r ∧ (match a with | .inl _ => true | .inr _ => false) = T) →
    ∃ fs : List Value, PySem.W.KatTups h vs fs ∧ fs.length = vs.length ∧ ∀ f ∈ fs, if T = true then ∃ x t, f = Value.int x t else ∃ x t, f = Value.str x t
  | [], _, _, _, _ => ⟨[], PySem.W.KatTups.nil, rfl, fun _ hm => by simp at hm⟩
  | v :: vs, ks, T, hp, hT => by
    obtain ⟨fs, h1, h2, h3⟩ := ft_firsts (vs := vs) (ks := ks) (T := T) (fun v' hm => hp v' (List.mem_cons_of_mem _ hm)) fun v' hm => hT v' (List.mem_cons_of_mem _ hm)
    obtain ⟨a, o, n, its, e, ho, hc, hd, r⟩ := hp v (List.mem_cons_self ..)
    obtain ⟨c, cs, ec, eT⟩ := hT v (List.mem_cons_self ..)
    rw [ec, List.map_cons] at r
    subst e
    obtain ⟨u, us, ei, ru, rus⟩ : ∃ u us, its.toList = u :: us ∧ RelV (kV c) u ∧ Vals (cs.map kV) us := by
      generalize its.toList = l at r
      cases r with
      | cons a b => exact ⟨_, _, rfl, a, b⟩
    have e0 : its[0]? = some u := by
      rw [← Array.getElem?_toList, ei]; rfl
    refine ⟨u :: fs, PySem.W.KatTups.cons ho hc hd e0 h1, by rw [List.length_cons, List.length_cons, h2], fun f hm => ?_⟩
    rcases List.mem_cons.mp hm with rfl | hm
    · cases c with
      | inl x =>
        subst eT
        obtain ⟨t, rfl⟩ := ru
        exact ⟨x, t, rfl⟩
      | inr x =>
        subst eT
        obtain ⟨t, rfl⟩ := ru
        exact ⟨x, t, rfl⟩
    · exact h3 f hm
theorem ft_sortableO {a : Addr} {vs : List Value} {k : Value → List Key} {T : Bool} (h0 : 0 < vs.length) (hp : ∀ v ∈ vs, IsFt s.heap v (k v)) (sh : ∀ v ∈ vs, ∀ u ∈ vs, sameSh (k v) (k u)) (hT : ∀ v ∈ vs, ∃ c r, k v = c :: r ∧ (match c with | .inl _ => true | .inr _ => false) = T)
    (ha : ∀ o, s.heap.get? a = some o → o.cls ≠ .type "tuple") : SrtO.SortableO prog w A s a vs fun v u => lexK (k v) (k u) := by
  intro h' keep
  have hp' : ∀ v ∈ vs, IsFt h' v (k v) := fun v hm => (hp v hm).keeps fun b o e c => keep b o (fun z => by subst z; exact ha o e c) e
  obtain ⟨fs, h1, h2, h3⟩ := ft_firsts hp' hT
  refine ⟨PyProof.Rows.tuples' true, fun Q E hq => ?_, ft_cmp hp' sh⟩
  cases T with
  | true =>
    refine PySem.W.kat_kind (T := .type "int") h1 (by omega) (fun f hm => ?_) (by rfl) ?_
    · obtain ⟨x, t, rfl⟩ := h3 f hm
      exact PySem.W.Looks.now
    · have e : (Value.type "int" != Value.type "tuple") = true := by first | decide +kernel | rfl | decide
      rw [e]
      exact hq
  | false =>
    refine PySem.W.kat_kind (T := .type "str") h1 (by omega) (fun f hm => ?_) (by rfl) ?_
    · obtain ⟨x, t, rfl⟩ := h3 f hm
      exact PySem.W.Looks.now
    · have e : (Value.type "str" != Value.type "tuple") = true := by first | decide +kernel | rfl | decide
      rw [e]
      exact hq
theorem swo_lexK {α : Type} (k : α → List Key) : SrtO.Swo fun v u => lexK (k v) (k u) := ⟨fun x y h => lexK_as h, fun x y z h1 h2 => lexK_neg h1 h2⟩
theorem sorted_ft {l : Addr} {vs : List Value} {k : Value → List Key} {T : Bool} {Q : Value → Shared → Prop} (hl : s.heap.IsList l vs.toArray) (hz : vs.length ≤ sizeLine) (hp : ∀ v ∈ vs, IsFt s.heap v (k v)) (sh : ∀ v ∈ vs, ∀ u ∈ vs, sameSh (k v) (k u)) (hT : ∀ v ∈ vs, ∃ c r, k v = c :: r ∧ (match c with | .inl _ => true | .inr _ => false) = T)
    (h : ∀ (h' : Heap) (d : Addr) (out : List Value), SrtO.Srtd (fun v u => lexK (k v) (k u)) out → out.Perm vs → (∀ b o, s.heap.get? b = some o → h'.get? b = some o) → s.heap.objs.size ≤ d → (∃ n, h'.get? d = some (PyProof.Rows.seqObj "list" out.toArray n)) → Q (.ref d) { s with heap := h' }) :
    wpAny (model prog w) A (call (.builtin "sorted") [.ref l]) Q E s := by
  refine SrtO.sorted_ord (swo_lexK k) hl hz (fun h2 h₁ a ha kk => ?_) fun out hs hb => ?_
  · refine ft_sortableO (s := { s with heap := h₁ }) (by omega) (fun v hm => (hp v hm).keeps fun b o e _ => (kk b o e).2) sh hT fun o e => ?_
    have e' : some o = some (PyProof.Rows.seqObj "list" vs.toArray 0) := e.symm.trans ha
    cases e'
    intro c
    exact absurd (Value.type.inj c) (by decide)
  · exact h _ _ out hs hb.perm (fun b o e => PyProof.Rows.sortedAll_old e) (Nat.le_succ _) (PyProof.Rows.sortedAll_at s.heap vs out.toArray)
end
section
variable {X : Cx}
/-- t is the flat tuple k -/
def FtV (K : PySem.W.Frag) (H : Hp) (x : V) (k : List Key) : Prop := ∃ t, x = V.ref t ∧ TupAt K H t (k.map kV) k.length
abbrev FtVs (K : PySem.W.Frag) (H : Hp) : List V → List (List Key) → Prop := Paired (FtV K H)
theorem kV_inj {a b : Key} (h : kV a = kV b) : a = b := by
  cases a <;> cases b <;> simp [kV] at h ⊢ <;> exact h
theorem map_kV_inj : ∀ {a b : List Key}, a.map kV = b.map kV → a = b
  | [], [], _ => rfl
  | x :: a, y :: b, h => by
    rw [List.map_cons, List.map_cons] at h
    injection h with h1 h2
    rw [kV_inj h1, map_kV_inj h2]
  | [], _ :: _, h => by cases h
  | _ :: _, [], h => by cases h
/-- sorted(xs), xs a list of flat tuples of one form -/
def rSortF (K : PySem.W.Frag) : List V → Hp → VK → Prop := fun vs H Q => ∃ (a : Addr) (xs : List V) (ks : List (List Key)) (T : Bool), vs = [V.ref a] ∧ SqL K H a xs ∧ FtVs K H xs ks ∧ (∀ x ∈ ks, ∀ y ∈ ks, sameSh x y) ∧
  (∀ x ∈ ks, ∃ c r, x = c :: r ∧ (match c with | .inl _ => true | .inr _ => false) = T) ∧
  ∀ ys ks' p, FtVs K H ys ks' → SrtK ks' → ks'.Perm ks → H p = none → Q (.ref p) (upd H p (.lst ys))
theorem paired_mem {α β : Type} {R : α → β → Prop} {xs : List α} {ys : List β} (h : Paired R xs ys) : ∀ x ∈ xs, ∃ y ∈ ys, R x y := by
  induction h with
  | nil => intro x hx; cases hx
  | cons a r ih =>
    intro x hx
    rcases List.mem_cons.mp hx with rfl | hx
    · exact ⟨_, List.mem_cons_self .., a⟩
    · obtain ⟨y, hy, ry⟩ := ih x hx
      exact ⟨y, List.mem_cons_of_mem _ hy, ry⟩
theorem paired_map {α β : Type} {R : α → β → Prop} {f : α → β} : ∀ {xs : List α}, (∀ x ∈ xs, R x (f x)) → Paired R xs (xs.map f)
  | [], _ => .nil
  | x :: xs, h => .cons (h x (List.mem_cons_self ..)) (paired_map fun y hy => h y (List.mem_cons_of_mem _ hy))
theorem paired_eq {α β : Type} {R : α → β → Prop} {f : α → β} {xs : List α} {ys : List β} (h : Paired R xs ys) (u : ∀ x ∈ xs, ∀ y, R x y → f x = y) : xs.map f = ys := by
  induction h with
  | nil => rfl
  | cons a r ih =>
    rw [List.map_cons, u _ (List.mem_cons_self ..) _ a, ih fun x hx => u x (List.mem_cons_of_mem _ hx)]
theorem cr_sortF : CallR X (.builtin "sorted") (rSortF X.K) := by
  intro pins s σ H vs us Q I r h
  obtain ⟨a, xs, ks, T, rfl, hs, hx, sh, hT, q⟩ := h
  obtain ⟨its, rv, hl, hz⟩ := I.list hs
  obtain ⟨u, rfl, ru⟩ := vals1 r
  obtain rfl : u = Value.ref a := ru
  have one : ∀ x k k', FtV X.K H x k → FtV X.K H x k' → k = k' := fun x k k' ⟨t, e, h1⟩ ⟨t', e', h2⟩ => by
    rw [e] at e'; cases e'
    exact map_kV_inj (I.tuple_inj h1.sq h2.sq)
  let kf : V → List Key := fun x => Classical.epsilon fun k => FtV X.K H x k
  have kfs : ∀ x ∈ xs, FtV X.K H x (kf x) := fun x hm => by
    obtain ⟨k, _, hk⟩ := paired_mem hx x hm
    exact Classical.epsilon_spec (p := fun k => FtV X.K H x k) ⟨k, hk⟩
  have ek : xs.map kf = ks := paired_eq hx fun x hm y hy => one x _ _ (kfs x hm) hy
  have kin : ∀ x ∈ xs, kf x ∈ ks := fun x hm => by rw [← ek]; exact List.mem_map_of_mem hm
  obtain ⟨e1, e2⟩ := refs_back rv fun x m => by
    obtain ⟨t, e, _⟩ := kfs x m
    exact ⟨t, e⟩
  have mem : ∀ v ∈ its, backV v ∈ xs := fun v hv => by rw [e1]; exact List.mem_map.mpr ⟨_, hv, rfl⟩
  refine sorted_ft (k := fun u => kf (backV u)) (T := T) hl.isList (by rw [← rv.length]; exact hz) (fun v hv => ?_) (fun v hv u hu => sh _ (kin _ (mem v hv)) _ (kin _ (mem u hu))) (fun v hv => hT _ (kin _ (mem v hv))) fun h' d out h1 h2 kp hd hn => ?_
  · obtain ⟨t, rfl⟩ := e2 v hv
    obtain ⟨t', e, ht⟩ := kfs _ (mem _ hv)
    cases e
    obtain ⟨its2, r2, ⟨o, ho, hc, n, hd⟩, _⟩ := I.tuple ht.sq
    exact ⟨t, o, n, its2.toArray, rfl, ho, hc, hd, by rw [List.toList_toArray]; exact r2⟩
  · have h3 : ∀ u ∈ out, ∃ a, u = Value.ref a := fun u hu => e2 u (h2.mem_iff.mp hu)
    obtain ⟨n, hn⟩ := hn
    have hb : (out.map backV).Perm xs := by
      rw [e1]
      exact h2.map backV
    have hy : ∀ y ∈ out.map backV, FtV X.K H y (kf y) := fun y hm => kfs y (hb.mem_iff.mp hm)
    refine ⟨.ref d, upd H d (.lst (out.map backV)), I.laid (t' := s.toks) kp hd ⟨?_, out, n, vals_back h3, hn⟩, rfl, q _ ((out.map backV).map kf) d (paired_map hy) ?_ (by rw [← ek]; exact hb.map kf) (I.hok.fresh hd)⟩
    · rw [hb.length_eq]
      exact hz
    · show List.Pairwise _ _
      rw [List.map_map]
      exact List.pairwise_map.mpr h1
/-- sorted(l), l a list of flat tuples of one form: a new one -/
def wSortF : RLm := fun ds m Q => match ds with
  | [.ref a] => ∃ (ks : List (List Key)) (T : Bool), rdM m a = some (.lst (ks.map fun k => .tup (k.map kD))) ∧ (∀ x ∈ ks, ∀ y ∈ ks, sameSh x y) ∧ (∀ x ∈ ks, ∃ c r, x = c :: r ∧ (match c with | .inl _ => true | .inr _ => false) = T) ∧
      ∀ ys, SrtK ys → ys.Perm ks → newO (.lst (ys.map fun k => .tup (k.map kD))) m Q
  | _ => False
theorem reps_kD {K : PySem.W.Frag} {H : Hp} : ∀ {k : List Key} {vs : List V}, Reps K H (k.map kD) vs → vs = k.map kV
  | [], _, h => Reps.nil_iff.mp h
  | c :: k, _, h => by
    obtain ⟨v, r, e, a, b⟩ := Reps.cons_iff.mp h
    rw [e, reps_kD b, kD_rep a]; rfl
theorem kD_reps {K : PySem.W.Frag} {H : Hp} : ∀ {k : List Key}, Reps K H (k.map kD) (k.map kV)
  | [] => Reps.nil
  | c :: k => Reps.cons rep_kD kD_reps
theorem reps_ft {K : PySem.W.Frag} {H : Hp} : ∀ {ks : List (List Key)} {vs : List V}, Reps K H (ks.map fun k => .tup (k.map kD)) vs → FtVs K H vs ks
  | [], _, h => by rw [Reps.nil_iff.mp h]; exact .nil
  | k :: ks, _, h => by
    obtain ⟨v, r, e, a, b⟩ := Reps.cons_iff.mp h
    subst e
    obtain ⟨t, xs, e2, s, rr⟩ := Rep.tup_iff.mp a
    rw [reps_kD rr, List.length_map] at s
    exact .cons ⟨t, e2, s⟩ (reps_ft b)
theorem ft_reps {K : PySem.W.Frag} {H : Hp} {ks : List (List Key)} {vs : List V} (h : FtVs K H vs ks) : Reps K H (ks.map fun k => .tup (k.map kD)) vs := by
  unfold FtVs at h
  induction h with
  | nil => exact Reps.nil
  | @cons x k xs ks a r ih =>
    obtain ⟨t, e, s⟩ := a
    subst e
    exact Reps.cons (Rep.tup_iff.mpr ⟨t, k.map kV, rfl, by rw [List.length_map]; exact s, kD_reps⟩) ih
theorem mc_sorted1 : MCall X (.builtin "sorted") wSortF := mcall_of cr_sortF fun ds vs H m Q Qm hx r q k => by
  unfold wSortF at q; split at q
  · obtain ⟨v, e, x⟩ := reps1 hx
    rw [Rep.ref_iff.mp x] at e
    obtain ⟨ks, T, h1, sh, hT, q⟩ := q
    obtain ⟨xs, s, rr⟩ := rd_lst r h1
    refine ⟨_, xs, ks, T, e, s, reps_ft rr, sh, hT, fun ys ks' p hy hs hp h => ?_⟩
    exact k _ _ _ _ (q ks' hs hp p (r.out h)) (r.new h ⟨_, rfl, ft_reps hy⟩) (Step.new r h) Rep.ref
  · exact q.elim
end
end Mm
namespace Mm
open PySem L2
open PyProof.Rows (envOfC)
section
variable {X : Cx} {B : Bs} {a b c : Expr} {la : TAm} {pos : Pos}
/-! ### < of numbers or of texts -/
def wLt : R2m := fun x y m Q => match x, y with
  | .int i, .int j => Q (.bl (decide (i < j))) m
  | .str i, .str j => Q (.bl (decide (i.cps.toList < j.cps.toList))) m
  | _, _ => False
theorem mo_ltt : MOp X (compareOp .Lt) wLt := mop_of (OpR.or op_lt op_lt_str) fun x y v w H m Q Qm hx hy r q k => by
  unfold wLt at q
  split at q
  · rw [Rep.int_iff.mp hx, Rep.int_iff.mp hy]
    exact .inl ⟨_, _, rfl, rfl, k _ _ _ _ q r Step.refl Rep.bl⟩
  · exact .inr ⟨_, _, Rep.str_iff.mp hx, Rep.str_iff.mp hy, k _ _ _ _ q r Step.refl Rep.bl⟩
  · exact q.elim
theorem i_ltI {i j : Int} {m : Mem} {Q : KM} (h : Q (.bl (decide (i < j))) m) : wLt (.int i) (.int j) m Q := h
theorem i_ltS {i j : Str} {m : Mem} {Q : KM} (h : Q (.bl (decide (i.cps.toList < j.cps.toList))) m) : wLt (.str i) (.str j) m Q := h
/-! ### three at once -/
def thrAt (ds : List D) (k : D → D → D → Prop) : Prop := match ds with
  | [x, y, z] => k x y z
  | _ => False
theorem i_thr {x y z : D} {k : D → D → D → Prop} (h : k x y z) : thrAt [x, y, z] k := h
def wPar3 (i j l : Nat) (t : TAm) : TSm := fun E ρ m => t ρ m fun ds m1 => thrAt ds fun x y z => E.nx (((ρ.set i (some x)).set j (some y)).set l (some z)) m1
theorem i_par3 {i j l : Nat} {E : EndsM} {ρ : StM} {m : Mem} (h : la ρ m fun ds m1 => thrAt ds fun x y z => E.nx (((ρ.set i (some x)).set j (some y)).set l (some z)) m1) : wPar3 i j l la E ρ m := h
theorem ms_par3 {i j l : Nat} {x y z : Str} {px py pz pt : Pos} {kt k2 pt2} (hc : X.calm = true) (hN : X.N.Nodup) (hi : X.N[i]? = some x) (hj : X.N[j]? = some y) (hl : X.N[l]? = some z) (hij : i ≠ j) (hil : i ≠ l) (hjl : j ≠ l)
    (hx : X.env.scope.names.lookup x = some .local) (hy : X.env.scope.names.lookup y = some .local) (hz : X.env.scope.names.lookup z = some .local) (ha : MA X B [a, b, c] la)
    (hw : swappedStores [.Tuple [.Name x px, .Name y py, .Name z pz] kt pt] (.Tuple [a, b, c] k2 pt2) X.env = pure (some [x, y, z]))
    (hs : swapsWithSole [.Tuple [.Name x px, .Name y py, .Name z pz] kt pt] (.Tuple [a, b, c] k2 pt2) pos.line X.env = pure false := by rfl) :
    MS X B (.Assign [.Tuple [.Name x px, .Name y py, .Name z pz] kt pt] (.Tuple [a, b, c] k2 pt2) pos) (wPar3 i j l la) := psImp (ps_par3 hc hN hi hj hl hij hil hjl hx hy hz ha hw hs) fun D σ H ⟨ρ, m, E, A, q, n, _⟩ => by
  refine ⟨ρ, m, _, A, q, fun ds m1 vs H1 q1 r1 t1 x1 => ?_⟩
  unfold thrAt at q1
  split at q1
  · obtain ⟨v, r, e, y1, y2⟩ := Reps.cons_iff.mp x1
    obtain ⟨w, r', e', z1, z2⟩ := Reps.cons_iff.mp y2
    obtain ⟨u, r'', e'', s1, s2⟩ := Reps.cons_iff.mp z2
    rw [Reps.nil_iff.mp s2] at e''
    subst e'' e'
    exact ⟨v, w, u, e, n _ _ _ _ q1 r1 t1 (Ss.set s1 l (Ss.set z1 j (Ss.set y1 i (A.s.stay (t1.tups A.r)))))⟩
  · exact q1.elim
/-! ### == where one of the two is flat enough; == of lists of dicts -/
def EqM (m : Mem) (x y : D) (k : Bool) : Prop := scD x y = some k ∨ ∃ t u, Vw m x t ∧ Vw m y u ∧ t.canLay0 = true ∧ u.canLay0 = true ∧ min t.depth u.depth ≤ 64 ∧ k = PyData.eqv t u
def rEqM (K : PySem.W.Frag) (neg : Bool) : R2 := fun x y H Q => ∃ d e, Dp K H x d ∧ Dp K H y e ∧ d.canLay0 = true ∧ e.canLay0 = true ∧ min d.depth e.depth ≤ 64 ∧ Q (.bl (if neg then !PyData.eqv d e else PyData.eqv d e)) H
theorem op_eqM (hu : X.A.units + 64 < cLine) : OpR X (compareOp .Eq) (rEqM X.K false) := by
  intro pins s σ H x y v u Q I rx ry h
  obtain ⟨d, e, hd, he, sd, se, hm, q⟩ := h
  obtain ⟨as, r1⟩ := Dp.reads I d x v hd rx
  obtain ⟨bs, r2⟩ := Dp.reads I e y u he ry
  exact SeqAt.compareEq_reads r1 r2 sd se (by omega) ⟨.bl _, H, I, rfl, q⟩
theorem op_neM (hu : X.A.units + 64 < cLine) : OpR X (compareOp .NotEq) (rEqM X.K true) := by
  intro pins s σ H x y v u Q I rx ry h
  obtain ⟨d, e, hd, he, sd, se, hm, q⟩ := h
  obtain ⟨as, r1⟩ := Dp.reads I d x v hd rx
  obtain ⟨bs, r2⟩ := Dp.reads I e y u he ry
  exact SeqAt.compareNe_reads r1 r2 sd se (by omega) ⟨.bl _, H, I, rfl, q⟩
def wEqM : R2m := fun x y m Q => ∃ k, EqM m x y k ∧ Q (.bl k) m
def wNeM : R2m := fun x y m Q => ∃ k, EqM m x y k ∧ Q (.bl (!k)) m
theorem i_eqM {x y : D} {m : Mem} {Q : KM} {k : Bool} (e : EqM m x y k) (h : Q (.bl k) m) : wEqM x y m Q := ⟨k, e, h⟩
theorem i_neM {x y : D} {m : Mem} {Q : KM} {k : Bool} (e : EqM m x y k) (h : Q (.bl (!k)) m) : wNeM x y m Q := ⟨k, e, h⟩
theorem mo_eqM {k : Nat} (hr : Room k X.A) : MOp X (compareOp .Eq) wEqM := mop_of (OpR.or op_eq (op_eqM (hu64 hr))) fun x y v w H m Q Qm hx hy r q k => by
  obtain ⟨b, h, q⟩ := q
  have fin := k _ _ _ _ q r Step.refl Rep.bl
  rcases h with h | ⟨t, u, h1, h2, s1, s2, hm, e⟩
  · obtain ⟨z1, z2⟩ := scD_of hx hy h
    exact .inl ⟨z1, by rw [z2]; exact fin⟩
  · exact .inr ⟨t, u, h1.dp r _ _ _ hx, h2.dp r _ _ _ hy, s1, s2, hm, by rw [if_neg Bool.false_ne_true, ← e]; exact fin⟩
theorem mo_neM {k : Nat} (hr : Room k X.A) : MOp X (compareOp .NotEq) wNeM := mop_of (OpR.or op_ne (op_neM (hu64 hr))) fun x y v w H m Q Qm hx hy r q k => by
  obtain ⟨b, h, q⟩ := q
  have fin := k _ _ _ _ q r Step.refl Rep.bl
  rcases h with h | ⟨t, u, h1, h2, s1, s2, hm, e⟩
  · obtain ⟨z1, z2⟩ := scD_of hx hy h
    exact .inl ⟨z1, by rw [z2]; exact fin⟩
  · exact .inr ⟨t, u, h1.dp r _ _ _ hx, h2.dp r _ _ _ hy, s1, s2, hm, by rw [if_pos rfl, ← e]; exact fin⟩
/-- two lists of dicts of the same flat things under the same keys, pairwise -/
def SameL (m : Mem) : List D → List D → Prop
  | [], [] => True
  | x :: xs, y :: ys => (∃ a b, x = .ref a ∧ y = .ref b ∧ SameD m a b) ∧ SameL m xs ys
  | _, _ => False
def wEqL : R2m := fun x y m Q => refAt x fun a => refAt y fun b => ∃ xs ys, rdM m a = some (.lst xs) ∧ rdM m b = some (.lst ys) ∧ SameL m xs ys ∧ Q (.bl true) m
theorem i_eqL {a b : Addr} {m : Mem} {Q : KM} {xs ys : List D} (h1 : rdM m a = some (.lst xs)) (h2 : rdM m b = some (.lst ys)) (h : SameL m xs ys) (q : Q (.bl true) m) : wEqL (.ref a) (.ref b) m Q := ⟨xs, ys, h1, h2, h, q⟩
theorem sameL_paired {K : PySem.W.Frag} {H : Hp} {m : Mem} (r : RM K H m) : ∀ {xs ys : List D} {vs ws : List V}, SameL m xs ys → Reps K H xs vs → Reps K H ys ws → Paired (EqV K H 2) vs ws
  | [], [], _, _, _, h1, h2 => by rw [Reps.nil_iff.mp h1, Reps.nil_iff.mp h2]; exact .nil
  | x :: xs, y :: ys, _, _, ⟨⟨a, b, e1, e2, h⟩, t⟩, h1, h2 => by
    obtain ⟨v, vs, rfl, x1, x2⟩ := Reps.cons_iff.mp h1
    obtain ⟨w, ws, rfl, y1, y2⟩ := Reps.cons_iff.mp h2
    subst e1 e2
    refine .cons ?_ (sameL_paired r t x2 y2)
    obtain ⟨ks, ls, z1, z2, z3, z4⟩ := kvs_same r h
    exact .inr (.inr (.inr ⟨a, b, ks, ls, Rep.ref_iff.mp x1, Rep.ref_iff.mp y1, z1, z2, z3, fun p hp => ⟨p.2, (z4 p hp).1, .inl ⟨rfl, (z4 p hp).2⟩⟩⟩))
  | [], _ :: _, _, _, h, _, _ => h.elim
  | _ :: _, [], _, _, h, _, _ => h.elim
theorem mo_eqL {k : Nat} (hr : Room k X.A) : MOp X (compareOp .Eq) wEqL := mop_of (op_eqV (hu64 hr)) fun x y v w H m Q Qm hx hy r q k => by
  unfold wEqL refAt at q
  split at q
  · split at q
    · obtain ⟨xs, ys, h1, h2, h, q⟩ := q
      obtain ⟨vs, s1, r1⟩ := rd_lst r h1
      obtain ⟨ws, s2, r2⟩ := rd_lst r h2
      exact ⟨2, by omega, .inl ⟨_, _, vs, ws, Rep.ref_iff.mp hx, Rep.ref_iff.mp hy, s1, s2, sameL_paired r h r1 r2⟩, k _ _ _ _ q r Step.refl Rep.bl⟩
    · exact q.elim
  · exact q.elim
/-- a global name whose value is a datum -/
def GlT (K : PySem.W.Frag) (mg : Str → Option Value) (x : Str) (d : D) : Prop := ∃ v u, mg x = some u ∧ RelV v u ∧ ∀ H, Rep K H d v
theorem gl_tupS {K : PySem.W.Frag} {mg : Str → Option Value} {x : Str} {t : Addr} {zs : List Str} {o : Obj} {its : Array Value} {n : Nat} (hm : mg x = some (.ref t)) (l : K.lookup t = some o) (hc : o.cls = .type "tuple") (hd : o.data = .seq its n) (hz : its.size ≤ sizeLine)
    (hv : Vals (zs.map V.str) its.toList) (h : zs.length = 1 ∨ zs.length = 5) : GlT K mg x (.tup (zs.map .str)) :=
  ⟨.ref t, _, hm, rfl, fun H => Rep.tup_iff.mpr ⟨t, zs.map V.str, rfl, .inr ⟨by rw [List.length_map]; exact h, .inr ⟨o, its, n, l, hc, hd, hz, hv⟩⟩, by
    clear hv h
    induction zs with
    | nil => exact Reps.nil
    | cons z zs ih => exact Reps.cons Rep.str ih⟩⟩
theorem mx_gt {B : Bs} {x : Str} {pos : Pos} {d : D} (h : GlT X.K X.mg x d) (hg : Gl X x := by rfl) (hd : (x == ("__debug__" : Str)) = false := by decide) : MX X B (.Name x pos) (wC d) := by
  obtain ⟨v, u, h1, h2, h3⟩ := h
  exact mx_glob hg h1 h2 h3 hd
end
end Mm
namespace Mm
open PySem L2
section
variable {X : Cx} {B : Bs} {a b : Expr} {rest : List Expr} {pos : Pos} {pa pb : TEm}
/-! ### x is True, x is False, where x is None or one of the two -/
def isBl (x : D) (b : Bool) : Option Bool := match x with
  | .bl c => some (decide (c = b))
  | .non => some false
  | _ => none
def wIsB : R2m := fun x y m Q => match y with
  | .bl b => ∃ k, isBl x b = some k ∧ Q (.bl k) m
  | _ => False
def rIsB2 : R2 := fun x y H Q => ∃ b : Bool, y = .bl b ∧ ((∃ a : Bool, x = .bl a ∧ Q (.bl (decide (a = b))) H) ∨ (x = .non ∧ Q (.bl false) H))
theorem op_isB2 : OpR X (compareOp .Is) rIsB2 := by
  intro pins s σ H x y v u Q I rx ry h
  obtain ⟨b, rfl, h⟩ := h
  cases (show u = Value.bool b from ry)
  rcases h with ⟨a, rfl, q⟩ | ⟨rfl, q⟩
  · cases (show v = Value.bool a from rx)
    by_cases e : a = b
    · subst e
      exact wpAny_is_self rfl ⟨.bl true, H, I, rfl, by simpa using q⟩
    · exact wpAny_is_other rfl (fun z => e (Value.bool.inj z)) ⟨.bl false, H, I, rfl, by simpa [e] using q⟩
  · cases (show v = Value.none from rx)
    exact wpAny_is_other rfl (fun z => by cases z) ⟨.bl false, H, I, rfl, q⟩
theorem mo_isB : MOp X (compareOp .Is) wIsB := mop_of op_isB2 fun x y v w H m Q Qm hx hy r q k => by
  unfold wIsB at q
  split at q
  · obtain ⟨c, e, q⟩ := q
    refine ⟨_, Rep.bl_iff.mp hy, ?_⟩
    have fin := k _ _ _ _ q r Step.refl Rep.bl
    unfold isBl at e
    split at e
    · cases e
      exact .inl ⟨_, Rep.bl_iff.mp hx, fin⟩
    · cases e
      exact .inr ⟨Rep.non_iff.mp hx, fin⟩
    · cases e
  · exact q.elim
theorem i_isB {x : D} {b k : Bool} {m : Mem} {Q : KM} (e : isBl x b = some k) (h : Q (.bl k) m) : wIsB x (.bl b) m Q := ⟨k, e, h⟩
/-! ### x in a tuple of tuples -/
def InT (m : Mem) (x y : D) (k : Bool) : Prop := ∃ t ts, Vw m x t ∧ Vw m y (.tuple ts) ∧ t.canLay0 = true ∧ PyData.canLayAll0 ts = true ∧ min (PyData.depthAll ts) t.depth ≤ 64 ∧ k = ts.any fun z => PyData.eqv z t
def rInT (K : PySem.W.Frag) : R2 := fun x y H Q => ∃ d ds, Dp K H x d ∧ Dp K H y (.tuple ds) ∧ d.canLay0 = true ∧ PyData.canLayAll0 ds = true ∧ min (PyData.depthAll ds) d.depth ≤ 64 ∧ Q (.bl (ds.any fun z => PyData.eqv z d)) H
theorem op_inT (hu : X.A.units + 65 < cLine) : OpR X (compareOp .In) (rInT X.K) := by
  intro pins s σ H x y v u Q I rx ry h
  obtain ⟨d, ds, hd, he, sd, se, hm, q⟩ := h
  obtain ⟨as, r1⟩ := Dp.reads I d x v hd rx
  obtain ⟨bs, r2⟩ := Dp.reads I (.tuple ds) y u he ry
  exact SeqAt.in_tuple_reads r2 r1 se sd (by omega) ⟨.bl _, H, I, rfl, q⟩
def wInT : R2m := fun x y m Q => ∃ k, InT m x y k ∧ Q (.bl k) m
theorem mo_inT {k : Nat} (hr : Room k X.A) : MOp X (compareOp .In) wInT := mop_of (op_inT (hu65 hr)) fun x y v w H m Q Qm hx hy r q k => by
  obtain ⟨b, ⟨t, ts, h1, h2, s1, s2, hm, e⟩, q⟩ := q
  exact ⟨t, ts, h1.dp r _ _ _ hx, h2.dp r _ _ _ hy, s1, s2, hm, by rw [← e]; exact k _ _ _ _ q r Step.refl Rep.bl⟩
theorem i_inT {x y : D} {m : Mem} {Q : KM} {k : Bool} (e : InT m x y k) (h : Q (.bl k) m) : wInT x y m Q := ⟨k, e, h⟩
/-! ### x and y, where x is None, True or False -/
def truN (d : D) : Option Bool := match d with
  | .non => some false
  | .bl b => some b
  | _ => none
def wAndT (p q : TEm) : TEm := fun ρ m Q => p ρ m fun d m1 => ∃ k, truN d = some k ∧ if k = true then q ρ m1 Q else Q d m1
theorem truV_of {K : PySem.W.Frag} {H : Hp} {d : D} {v : V} {k : Bool} (x : Rep K H d v) (e : truN d = some k) : TruV K v H k := by
  unfold truN at e
  split at e
  · cases e; rw [Rep.non_iff.mp x]; exact rfl
  · cases e; rw [Rep.bl_iff.mp x]; exact rfl
  · cases e
theorem mx_andT (ha : MX X B a pa) (hb : MX X B (.BoolOp .And (b :: rest) pos) pb) : MX X B (.BoolOp .And (a :: b :: rest) pos) (wAndT pa pb) :=
  peImp (pe_andT ha hb) fun σ H Q ⟨ρ, m, Qm, A, q, k⟩ => by
    refine ⟨ρ, m, _, A, q, fun d m1 v H1 ⟨c, e, q1⟩ r1 t1 x1 => ?_⟩
    refine ⟨c, truV_of x1 e, ?_⟩
    cases c with
    | true => simp only [if_true] at q1 ⊢; exact ⟨ρ, m1, Qm, A.step r1 t1, q1, fun d m' v H' q2 r2 t2 => k d m' v H' q2 r2 (t1.trans t2)⟩
    | false => simp only [Bool.false_eq_true, if_false] at q1 ⊢; exact k _ _ _ _ q1 r1 t1 x1
end
end Mm
namespace Mm
open PySem L2
open PySem.SeqAt PySem.MeetsSeq PySem.MeetsSeq2 PySem.MeetsSeq3 PySem.SeqRoads2 PySem.AutoSeq1
/-! ### != of two lists that are alike, item by item -/
section
variable {prog : Program} {w : World}
theorem alike_walk (l b : Addr) (xs ys : Array Value) (n n2 : Nat) (dd dd2 : Option Addr) (sl sl2 : Array (Option Value)) (hsz : xs.size = ys.size) (k : Nat) :
    ∀ i : Nat, xs.size - i = k → MeetsIn prog w (Builtin.«list.__eq__.loop» ⟨[.ref l, .ref b, rawInt i, rawInt 3], []⟩)
      (fun A R s => s.heap.get? l = some { cls := .type "list", dict := dd, data := .seq xs n, slots := sl } ∧ s.heap.get? b = some { cls := .type "list", dict := dd2, data := .seq ys n2, slots := sl2 } ∧
        (∀ j (h1 : j < xs.size) (h2 : j < ys.size), EqP prog w A.in1 s xs[j] ys[j] true) ∧ R (.ok (.ret (.bool false))) s) := by
  induction k with
  | zero =>
    intro i hk A R s h
    obtain ⟨hp, g, d, tk, os⟩ := s
    obtain ⟨hl, hb, -, h⟩ := h
    wp_walk using wpAny_loadPart' hl, wpAny_loadPart' hb
    have e1 : xs[((i : Nat) : Int).toNat]? = none := by simp; omega
    have e2 : ys[((i : Nat) : Int).toNat]? = none := by simp; omega
    rw [e1, e2]
    wp_walk using wpAny_loadPart' hl, wpAny_loadPart' hb
    show R (.ok (.ret (.bool (xs.size != ys.size)))) _
    rw [show (xs.size != ys.size) = false by simp [hsz]]
    exact h
  | succ k ih =>
    intro i hk A R s h
    obtain ⟨hp, g, d, tk, os⟩ := s
    obtain ⟨hl, hb, he, h⟩ := h
    wp_walk using wpAny_loadPart' hl, wpAny_loadPart' hb
    have l1 : i < xs.size := by omega
    have l2 : i < ys.size := by omega
    have e1 : xs[((i : Nat) : Int).toNat]? = some xs[i] := by simp [l1]
    have e2 : ys[((i : Nat) : Int).toNat]? = some ys[i] := by simp [l2]
    rw [e1, e2]
    refine wpAny_bind (he i l1 l2 _ _ ?_)
    wp_walk
    rw [show ((i : Int) + 1) = ((i + 1 : Nat) : Int) by push_cast; rfl]
    exact ⟨plainId_quiet plain_eq_loop _, codeAny_builtin entry_eq_loop (by
      rw [Around.under_plainId plain_eq_loop _]
      exact ih (i + 1) (by omega) A R _ ⟨hl, hb, he, h⟩)⟩
theorem alike_ne (l b : Addr) (xs ys : Array Value) (n n2 : Nat) (dd dd2 : Option Addr) (sl sl2 : Array (Option Value)) (hsz : xs.size = ys.size) :
    MeetsIn prog w (Builtin.«list.__ne__» ⟨[.ref l, .ref b], []⟩)
      (fun A R s => s.heap.get? l = some { cls := .type "list", dict := dd, data := .seq xs n, slots := sl } ∧ s.heap.get? b = some { cls := .type "list", dict := dd2, data := .seq ys n2, slots := sl2 } ∧
        (∀ j (h1 : j < xs.size) (h2 : j < ys.size), EqP prog w A.in1 s xs[j] ys[j] true) ∧ R (.ok (.ret (.bool false))) s) := by
  intro A R s h
  obtain ⟨hp, g, d, tk, os⟩ := s
  obtain ⟨hl, hb, he, h⟩ := h
  have f3 := AutoSeq1.sub_list_list
  have hne : ¬ (xs.size != ys.size) = true := by simp [hsz]
  wp_walk using wpAny_loadPart' hl, wpAny_loadPart' hb
  exact ⟨plainId_quiet plain_eq_loop _, codeAny_builtin entry_eq_loop (by
    rw [Around.under_plainId plain_eq_loop _]
    exact alike_walk l b xs ys n n2 dd dd2 sl sl2 hsz _ 0 rfl A R _ ⟨hl, hb, he, h⟩)⟩
theorem alike_rc {A : Around} {s : Shared} {l b : Addr} {xs ys : Array Value} (hl : s.heap.IsList l xs) (hb : s.heap.IsList b ys) (hsz : xs.size = ys.size) (hu : A.units < cLine)
    (he : ∀ j (h1 : j < xs.size) (h2 : j < ys.size), EqP prog w A.in1 s xs[j] ys[j] true) (E Q : Value → Shared → Prop) (h : Q (.bool false) s) : wpAny (model prog w) A (richCompare .NotEq (.ref l) (.ref b)) Q E s := by
  obtain ⟨⟨c1, dd, data, sl⟩, ho, hc, n, hd⟩ := id hl
  obtain ⟨⟨c2, dd2, data2, sl2⟩, ho2, hc2, n2, hd2⟩ := id hb
  simp only at hc hd hc2 hd2
  subst hc hd hc2 hd2
  have ta : s.TypeIs (.ref l) "list" := ⟨_, ho, rfl⟩
  have tb : s.TypeIs (.ref b) "list" := ⟨_, ho2, rfl⟩
  exact wpAny_richCompare_same_room (op := .NotEq) ta tb F.slot_list_ne (call_meetsIn F.slot_list_ne ta F.entry_list_ne (F.args_list_ne_2 _ _) (alike_ne l b xs ys n n2 dd dd2 sl sl2 hsz)
    ⟨ho, ho2, he, show Value.bool false ≠ Value.notImplemented ∧ Q (.bool false) s from ⟨(fun x => nomatch x), h⟩⟩) hu
end
section
variable {X : Cx}
def rNeV (K : PySem.W.Frag) : R2 := fun x y H Q => ∃ n a b xs ys, n ≤ 60 ∧ x = .ref a ∧ y = .ref b ∧ SqL K H a xs ∧ SqL K H b ys ∧ Paired (EqV K H n) xs ys ∧ Q (.bl false) H
theorem op_neV (hu : X.A.units + 64 < cLine) : OpR X (compareOp .NotEq) (rNeV X.K) := by
  intro pins s σ H x y v u Q I rx ry h
  obtain ⟨n, a, b, xs, ys, hn, rfl, rfl, ha, hb, hp, q⟩ := h
  cases (show v = Value.ref a from rx)
  cases (show u = Value.ref b from ry)
  obtain ⟨us, r1, p1, _⟩ := I.list ha
  obtain ⟨ws, r2, p2, _⟩ := I.list hb
  have hsz : us.toArray.size = ws.toArray.size := by
    rw [List.size_toArray, List.size_toArray, ← r1.length, ← r2.length]
    exact Paired.length hp
  refine alike_rc p1.isList p2.isList hsz (by omega) (fun j h1 h2 => ?_) _ _ ⟨.bl false, H, I, rfl, q⟩
  have k := items_run (eqV_run I n X.A.in1 (by show X.A.units + 1 + n < cLine; omega)) hp r1 r2 j (by simpa using h1) (by simpa using h2)
  simpa using k
def wNeL : R2m := fun x y m Q => refAt x fun a => refAt y fun b => ∃ xs ys, rdM m a = some (.lst xs) ∧ rdM m b = some (.lst ys) ∧ SameL m xs ys ∧ Q (.bl false) m
theorem i_neL {a b : Addr} {m : Mem} {Q : KM} {xs ys : List D} (h1 : rdM m a = some (.lst xs)) (h2 : rdM m b = some (.lst ys)) (h : SameL m xs ys) (q : Q (.bl false) m) : wNeL (.ref a) (.ref b) m Q := ⟨xs, ys, h1, h2, h, q⟩
theorem mo_neL {k : Nat} (hr : Room k X.A) : MOp X (compareOp .NotEq) wNeL := mop_of (op_neV (hu64 hr)) fun x y v w H m Q Qm hx hy r q k => by
  unfold wNeL refAt at q
  split at q
  · split at q
    · obtain ⟨xs, ys, h1, h2, h, q⟩ := q
      obtain ⟨vs, s1, r1⟩ := rd_lst r h1
      obtain ⟨ws, s2, r2⟩ := rd_lst r h2
      exact ⟨2, _, _, vs, ws, by omega, Rep.ref_iff.mp hx, Rep.ref_iff.mp hy, s1, s2, sameL_paired r h r1 r2, k _ _ _ _ q r Step.refl Rep.bl⟩
    · exact q.elim
  · exact q.elim
end
end Mm
namespace Mm
open PySem L2
section
variable {X : Cx} {B : Bs} {tg iter : Expr} {p : TEm}
/-! ### over the signs of a text -/
def signsD (x : Str) : List D := x.cps.toList.map fun c => .str ⟨#[c]⟩
def iStrM (p : TEm) : TIm := fun ρ m R => p ρ m fun d m1 => ∃ x, d = .str x ∧ R (signsD x) (fun _ => True) m1
theorem mi_str (h : MX X B iter p) : MI X B tg iter (iStrM p) := piImp (pi_str h) fun σ H R ⟨ρ, m, Rm, A, q, k⟩ => by
  refine ⟨ρ, m, _, A, q, fun d m1 v H1 q1 r1 t1 x1 => ?_⟩
  obtain ⟨x, rfl, q1⟩ := q1
  have ev : v = .str x := Rep.str_iff.mp x1
  refine ⟨x, ev, k _ _ _ _ (Its x) q1 r1 t1 fun i m' H' s r c => ?_⟩
  refine ⟨fun d e => ?_, fun e => ?_⟩
  · unfold signsD at e
    rw [List.getElem?_map] at e
    obtain ⟨c, ec, rfl⟩ := Option.map_eq_some_iff.mp e
    rw [Array.getElem?_toList] at ec
    have hlt : i < x.cps.size := (Array.getElem?_eq_some_iff.mp ec).1
    refine ⟨hlt, fun y H2 z => ?_⟩
    obtain ⟨rfl, c', ec', rfl⟩ := z
    rw [ec] at ec'
    cases ec'
    exact ⟨r, Step.refl, Rep.str⟩
  · unfold signsD at e
    rw [List.length_map, Array.length_toList] at e
    exact e
end
end Mm
/-! a set made of a list of texts, and the list of its members in order -/
namespace MmT
open PySem PySem.Spec PyProof.Rows L2 PySem.Froz
/-- an empty set, as it is made -/
abbrev noneYet (w : World) : Obj := { cls := .type "set", dict := none, data := .set #[] 0 (.fresh 0 0 (!w.params.followText "set-order")) }
/-- the set at a holds the texts l -/
def TxR (P : Program) (w : World) (h : Heap) (a : Addr) (l : List Str) : Prop :=
  ∃ D : SD, h.get? a = some (sObj "set" D) ∧ TxOk P w D l ∧ l.Nodup ∧ Ris D.2.2.place.toList ∧ (w.params.followText "set-order" = true ∨ D.2.2.led = true)
theorem TxR.at {P : Program} {w : World} {h h' : Heap} {a : Addr} {l : List Str} (R : TxR P w h a l) (k : ∀ o, h.get? a = some o → h'.get? a = some o) : TxR P w h' a l :=
  let ⟨D, e, r⟩ := R
  ⟨D, k _ e, r⟩
/-- the members as they come: the latest first -/
def ones (xs : List Str) : List Str := xs.foldl (fun l x => if x ∈ l then l else x :: l) []
theorem ones_snoc (xs : List Str) (x : Str) : ones (xs ++ [x]) = if x ∈ ones xs then ones xs else x :: ones xs := by unfold ones; rw [List.foldl_append]; rfl
theorem ones_all : ∀ (n : Nat) (xs : List Str), xs.length = n → (ones xs).Nodup ∧ (∀ y, y ∈ ones xs ↔ y ∈ xs) ∧ (ones xs).length ≤ xs.length
  | 0, xs, h => by
    rw [List.length_eq_zero_iff.mp h]
    exact ⟨List.nodup_nil, fun y => Iff.rfl, Nat.le_refl _⟩
  | n + 1, xs, h => by
    obtain ⟨ys, x, rfl⟩ : ∃ ys x, xs = ys ++ [x] := ⟨xs.dropLast, xs.getLast (by intro z; rw [z] at h; cases h), (List.dropLast_concat_getLast _).symm⟩
    rw [List.length_append, List.length_singleton] at h
    obtain ⟨a, b, c⟩ := ones_all n ys (by omega)
    rw [ones_snoc, List.length_append, List.length_singleton]
    split
    · rename_i hx
      exact ⟨a, fun y => by rw [b, List.mem_append, List.mem_singleton]; exact ⟨.inl, fun z => z.elim id fun e => e ▸ (b x).mp hx⟩, by omega⟩
    · rename_i hx
      exact ⟨List.nodup_cons.mpr ⟨hx, a⟩, fun y => by rw [List.mem_cons, b, List.mem_append, List.mem_singleton]; exact Or.comm, by rw [List.length_cons]; omega⟩
theorem ones_nd (xs : List Str) : (ones xs).Nodup := (ones_all _ xs rfl).1
theorem ones_mem {xs : List Str} {y : Str} : y ∈ ones xs ↔ y ∈ xs := (ones_all _ xs rfl).2.1 y
theorem ones_len (xs : List Str) : (ones xs).length ≤ xs.length := (ones_all _ xs rfl).2.2
theorem plain_off {t : SetTable} : (if t.plain = true then { t with plain := false } else t).place = t.place ∧ (if t.plain = true then { t with plain := false } else t).led = t.led := by split <;> exact ⟨rfl, rfl⟩
theorem tail_ris {ep : Nat} {es : Array (Int × Value)} {t : SetTable} {b : Bool} (r : Ris t.place.toList) : Ris (tailTx ep es t b).2.2.place.toList ∧ (tailTx ep es t b).2.2.led = t.led := by
  unfold tailTx
  split
  · exact ⟨relayAll_ris _ _ _, relayAll_led _ _ _⟩
  · exact ⟨r, rfl⟩
theorem add_ris {h : Int} {v : Value} {D : SD} (r : Ris D.2.2.place.toList) : Ris (addTx h v D).2.2.place.toList ∧ (addTx h v D).2.2.led = D.2.2.led := by
  have a := layNew_ris D.2.2 D.1 h v r
  have b := layNew_led D.2.2 D.1 h v
  have c := plain_off (t := (layNew D.2.2 D.1 h v).2.1)
  have d := tail_ris (ep := D.2.1) (es := (layNew D.2.2 D.1 h v).1) (b := (layNew D.2.2 D.1 h v).2.2.1) (by rw [c.1]; exact a)
  exact ⟨d.1, d.2.trans (c.2.trans b)⟩
section
variable {P : Program} {w : World} {A : Around} {E : Value → Shared → Prop} {s : Shared}
/-- what is in already changes nothing -/
theorem add_in {a : Addr} {T : String} {D : SD} {l : List Str} {k : Str} {u : Tok} {Q : Bool → Shared → Prop} (ho : s.heap.get? a = some (sObj T D)) (F : TxOk P w D l) (hk : k ∈ l) (hb : l.length < scanBound)
    (h : Q false s) : wpAny (model P w) A (setAddHashed a (.str k u) (hashStr w k)) Q E s := by
  have hb0 : D.1.size < scanBound := by have := F.sz; omega
  unfold setAddHashed setAddHashedIn
  refine wpAny_holding (wpAny_bind (wpAny_setState_of ho rfl F.fit ?_)); dsimp only
  rw [byScan_of rfl hb0 F.el]; simp only [↓reduceIte]; unfold setAddByScan
  refine wpAny_bind (wpAny_bind (wpAny_rule (wpAny_bind (wpAny_setScan_of (knd := strKind P w) (k := k) (is_str k u) ho rfl F.fit F.el ?_))))
  cases hr : List.findIdx? (fun e => (strKind P w).is k e.2) D.1.toList with
  | none =>
    obtain ⟨e, he, z⟩ := (F.mem k).mp hk
    rw [List.findIdx?_eq_none_iff.mp hr e he] at z
    cases z
  | some j => exact wpAny_pure (wpAny_pure h)
theorem add_one {a : Addr} {l : List Str} {k : Str} {u : Tok} {Q : Bool → Shared → Prop} (R : TxR P w s.heap a l) (hb : l.length + 1 < scanBound)
    (h : ∀ b h', Heap.SameBut a s.heap h' → TxR P w h' a (if k ∈ l then l else k :: l) → Q b { s with heap := h' }) : wpAny (model P w) A (setAddHashed a (.str k u) (hashStr w k)) Q E s := by
  obtain ⟨D, e, ok, hn, r, d⟩ := R
  by_cases hk : k ∈ l
  · exact add_in e ok hk (by omega) (h _ s.heap (Heap.SameBut.refl _ _) (by rw [if_pos hk]; exact ⟨D, e, ok, hn, r, d⟩))
  · refine add_x e ok hk hb (h _ _ (Heap.SameBut.update _ _ _) ?_)
    rw [if_neg hk]
    obtain ⟨r1, r2⟩ := add_ris (h := hashStr w k) (v := .str k u) r
    exact ⟨_, get_upd _ e rfl, add_ok u ok, List.nodup_cons.mpr ⟨hk, hn⟩, r1, d.imp id fun z => by rw [r2]; exact z⟩
theorem fill_texts {I : Addr} {fp wr : List Addr} {G : Array GenState → Array GenState → Prop} {n : Nat} {Pv : Nat → Value → Prop} {St : Nat → Shared → Prop} {R : Result → Shared → Prop} (W : WalksS P w A.in1 I fp wr G n Pv St) (S : Addr) (out : S ∉ fp)
    (xs : List Str) (hn : n = xs.length) (hb : ∀ i, (ones (xs.take i)).length + 1 < scanBound) (hv : ∀ i v, Pv i v → ∃ k t, xs[i]? = some k ∧ v = .str k t) : ∀ (k i : Nat) (s : Shared), n - i = k → i ≤ n → St i s → TxR P w s.heap S (ones (xs.take i)) →
      (∀ s', Moved (S :: wr) G s s' → TxR P w s'.heap S (ones xs) → R (.ok (.ret .none)) s') → codeAny (model P w) A (.builtin "set.update.loop" ⟨[.ref S, .ref I], []⟩) R s := by
  have nw : S ∉ wr := fun z => out (W.sub _ z)
  have more : ∀ b ∈ wr, b ∈ S :: wr := fun b z => List.mem_cons_of_mem _ z
  intro k
  induction k with
  | zero =>
    intro i s e le st T q
    obtain rfl : i = n := by omega
    rw [List.take_of_length_le (by omega)] at T
    refine codeAny_builtin PyProof.Rows.F.entry_set_update_loop ?_; rw [Around.under_plainId PyProof.Rows.F.plain_set_update_loop _]
    show wpAny _ A.in1 (pyNext (.ref I) >>= fun _ => _) _ _ s
    refine wpAny_bind (W.done s _ _ st fun s' mv => ?_)
    exact wpAny_pure (q s' (mv.mono more) (T.at fun o z => mv.heap S o nw z))
  | succ k ih =>
    intro i s e le st T q
    have lt : i < n := by omega
    refine codeAny_builtin PyProof.Rows.F.entry_set_update_loop ?_; rw [Around.under_plainId PyProof.Rows.F.plain_set_update_loop _]
    show wpAny _ A.in1 (pyNext (.ref I) >>= fun _ => _) _ _ s
    refine wpAny_bind (W.item i s _ _ lt st fun v s' pv st' mv => ?_)
    obtain ⟨x, t, hx, rfl⟩ := hv i v pv
    have T' : TxR P w s'.heap S (ones (xs.take i)) := T.at fun o z => mv.heap S o nw z
    have len := hb i
    show wpAny _ A.in1 (holding [Value.str x t] (setAdd S (.str x t)) >>= fun _ => _) _ _ s'
    refine wpAny_bind (wpAny_holding ?_); unfold setAdd
    refine wpAny_holding (wpAny_bind ((strKind P w).pyHash (k := x) (strKind_is _ _ _ _) ?_))
    refine add_one (s := { s' with toks := s'.toks + 1 }) T' len fun b h' same T2 => ?_
    have T3 : TxR P w h' S (ones (xs.take (i + 1))) := by
      rw [List.take_add_one, hx]
      show TxR P w h' S (ones (xs.take i ++ [x]))
      rw [ones_snoc]; exact T2
    refine wpAny_pure ⟨plainId_quiet PyProof.Rows.F.plain_set_update_loop _, ih (i + 1) _ (by omega) lt (W.frame _ s' _ _ st' (Nat.le_succ _) fun c hc o z => ?_) T3 fun s'' mv2 T4 => q s'' (Moved.trans W.gtrans ((mv.mono more).then_heap (Nat.le_succ _) fun c o hc z => ?_) mv2) T4⟩
    · exact (same.2 c fun z => out (z ▸ hc)).trans z
    · exact (same.2 c fun z => hc (z ▸ List.mem_cons_self)).trans z
theorem noneYet_set {h : Heap} {a : Addr} (e : h.get? a = some (noneYet w)) : TxR P w h a [] :=
  ⟨(#[], 0, .fresh 0 0 (!w.params.followText "set-order")), e, .nil rfl, List.nodup_nil, (by simp [SetTable.fresh, Ris]), by
    cases w.params.followText "set-order"
    · exact .inr rfl
    · exact .inl rfl⟩
set_option maxHeartbeats 3200000 in
/-- set(l), l a list of texts -/
theorem set_texts {l : Addr} {us : Array Value} (xs : List Str) {Q : Value → Shared → Prop} (calm : A.handled = none) (hl : s.heap.IsList l us) (hx : StrsAre us.toList xs) (few : ∀ i, (ones (xs.take i)).length + 1 < scanBound)
    (q : ∀ h' tk, TxR P w h' s.heap.objs.size (ones xs) → (∀ b o, s.heap.get? b = some o → h'.get? b = some o) → Q (.ref s.heap.objs.size) { s with heap := h', toks := tk }) : wpAny (model P w) A (call (.type "set") [.ref l]) Q E s := by
  have hsz : us.size = xs.length := by rw [← StrsAre.len_eq hx, Array.length_toList]
  obtain ⟨c0, c1, c2⟩ := PySem.F.called_set.mro; have c3 := PySem.F.called_set.made; have c4 := PySem.F.called_set.sub
  refine wpAny_call (codeAny_of_tree ?_); show wpAny _ _ (callAny (.type "set") _) _ _ _
  refine wpAny_pure ⟨Code.quiet_builtin _ (by decide +kernel), codeAny_builtin PySem.F.entry_type_call ?_⟩; rw [Around.under_plain (weight_type_call_type "set" [.ref l] []) rfl]
  have c5 := PySem.F.called_set.notType; have c6 := PySem.F.called_set.canCreate; have c7 := PySem.F.typeCall_set_1 (.ref l)
  repeat (any_goals (first | assumption | wp_step))
  refine codeAny_mono (code_set_led1 (.ref l) (E := E) (Q₁ := fun v t => v = .ref s.heap.objs.size ∧ t = { s with heap := s.heap.push (noneYet w) }) ⟨rfl, rfl⟩) fun r t hr => ?_
  cases r with
  | error e => exact hr
  | ok f =>
  cases f with
  | ret v =>
    obtain ⟨rfl, rfl⟩ := hr
    have at0 : (s.heap.push (noneYet w)).get? s.heap.objs.size = some (noneYet w) := Heap.get?_push_size _ rfl
    have ty0 : Shared.TypeIs { s with heap := s.heap.push (noneYet w) } (.ref s.heap.objs.size) "set" := ⟨_, at0, rfl⟩
    have i1 := PySem.F.called_set.init.lookup; have i2 := PySem.F.called_set.init.bind (.ref s.heap.objs.size)
    repeat (any_goals (first | assumption | wp_step))
    refine codeAny_mono (codeAny_call_builtin (R := wants (fun r t => r = .none ∧ ∃ h' tk, t = { s with heap := h', toks := tk } ∧ TxR P w h' s.heap.objs.size (ones xs) ∧ ∀ b o, s.heap.get? b = some o → h'.get? b = some o) E)
      PySem.F.called_set.init.plain PySem.F.entry_set_init (check_set_init_1 ty0 ?_)) fun r t ht => ?_
    · obtain ⟨⟨oc, od, oa, os⟩, g, k1, nl, k2⟩ := hl
      simp only at k1 k2; subst k1 k2
      have g1 : (s.heap.push (noneYet w)).get? l = some { cls := .type "list", dict := od, data := .seq us nl, slots := os } := Heap.get?_push_of_some _ g
      have n1 := PySem.F.sub_list_set; have n2 := PySem.F.sub_list_frozenset
      have n3 : (Value.type "list" == Value.type "dict") = false := by decide
      have l1 : (s.heap.push (noneYet w)).IsList l us := ⟨_, g1, rfl, nl, rfl⟩
      unfold Builtin.«set.__init__» noKeywords Builtin.Frozenset.updateFrom
      generalize hy : pyIter = py; wp_walk; subst hy
      refine wpAny_pyIter_list l1 (wpAny_bind (wpAny_runValue ?_))
      have lt : l < s.heap.objs.size := Heap.lt_size g
      have z1 : (s.heap.push (noneYet w)).objs.size = s.heap.objs.size + 1 := Heap.size_push ..
      have ne1 : l ≠ (s.heap.push (noneYet w)).objs.size := Nat.ne_of_lt (by rw [z1]; exact Nat.lt_succ_of_lt lt)
      have ne2 : s.heap.objs.size ∉ [(s.heap.push (noneYet w)).objs.size, l] := fun z => by
        rcases List.mem_cons.mp z with z | z
        · exact Nat.ne_of_lt (Nat.lt_succ_self _) (z.trans z1)
        · exact Nat.ne_of_gt lt (List.mem_singleton.mp z)
      refine fill_texts ((Walks.list (by simp [calm]) _ l ne1 us).toS) s.heap.objs.size ne2 xs hsz few (fun i v hv => ?_) (us.size - 0) 0 _ (by omega) (Nat.zero_le _) ⟨⟨_, Heap.get?_push_size _ rfl, rfl, rfl⟩, l1.push _⟩ ?_ ?_
      · have hi : i < xs.length := by rw [← hsz]; exact (Array.getElem?_eq_some_iff.mp hv).1
        obtain ⟨t, e⟩ := SS.strs_at hx i v (by rw [Array.getElem?_toList]; exact hv)
        exact ⟨xs[i], t, List.getElem?_eq_getElem hi, by rw [e, List.getD_eq_getElem?_getD, List.getElem?_eq_getElem hi]; rfl⟩
      · exact noneYet_set (Heap.get?_push_of_some _ at0)
      · rintro ⟨h', g', d', tk', os'⟩ mv T
        obtain rfl : g' = s.gens := mv.gens
        obtain rfl : d' = s.drawn := mv.drawn
        obtain rfl : os' = s.os := mv.os
        show wpAny _ _ _ _ _ _
        refine wpAny_pure ?_
        show wpAny _ _ (ret Value.none) _ _ _
        refine wpAny_pure ⟨rfl, h', tk', rfl, T, fun b o e => ?_⟩
        have b0 : b < s.heap.objs.size := Heap.lt_size e
        exact mv.heap b o (fun z => by
          rcases List.mem_cons.mp z with z | z
          · exact Nat.ne_of_lt b0 z
          · exact Nat.ne_of_lt (Nat.lt_succ_of_lt b0) ((List.mem_singleton.mp z).trans z1)) (Heap.get?_push_of_some _ (Heap.get?_push_of_some _ e))
    · cases r with
      | error e => exact ht
      | ok f =>
      cases f with
      | ret v =>
        obtain ⟨rfl, h', tk, rfl, T, kp⟩ := ht
        repeat (any_goals (first | assumption | wp_step))
        exact q _ _ T kp
      | _ => exact ht.elim
  | _ => exact hr.elim
end
end MmT
namespace MmT
open PySem PySem.Spec PyProof.Rows L2 PySem.Froz
theorem perm_in : ∀ {l ks : List Str}, l.Nodup → (∀ x ∈ l, x ∈ ks) → ks.length ≤ l.length → ks.Perm l
  | [], ks, _, _, le => by rw [List.length_eq_zero_iff.mp (Nat.le_zero.mp le)]
  | x :: l, ks, nd, sub, le => by
    obtain ⟨nx, nl⟩ := List.nodup_cons.mp nd
    have hx := sub x List.mem_cons_self
    refine (List.perm_cons_erase hx).trans (List.Perm.cons x (perm_in nl (fun y hy => ?_) ?_))
    · exact (List.mem_erase_of_ne (fun e : y = x => nx (e ▸ hy))).mpr (sub y (List.mem_cons_of_mem _ hy))
    · rw [List.length_erase_of_mem hx]; rw [List.length_cons] at le; omega
theorem nd_le : ∀ {l ks : List Str}, l.Nodup → (∀ x ∈ l, x ∈ ks) → l.length ≤ ks.length
  | [], _, _, _ => Nat.zero_le _
  | x :: l, ks, nd, sub => by
    obtain ⟨nx, nl⟩ := List.nodup_cons.mp nd
    have hx := sub x List.mem_cons_self
    have := nd_le (l := l) (ks := ks.erase x) nl fun y hy => (List.mem_erase_of_ne (fun e : y = x => nx (e ▸ hy))).mpr (sub y (List.mem_cons_of_mem _ hy))
    rw [List.length_erase_of_mem hx] at this
    have := List.length_pos_of_mem hx
    rw [List.length_cons]; omega
theorem strs_map : ∀ vs : List Value, (∀ v ∈ vs, ∃ k t, v = Value.str k t) → StrsAre vs (vs.map strOf)
  | [], _ => .nil
  | v :: vs, h => by
    obtain ⟨k, t, rfl⟩ := h v List.mem_cons_self
    exact .cons k t (strs_map vs fun u hu => h u (List.mem_cons_of_mem _ hu))
section
variable {P : Program} {w : World} {A : Around} {E : Value → Shared → Prop} {s : Shared}
theorem sorted_texts {a : Addr} {l : List Str} {Q : Value → Shared → Prop} (T : TxR P w s.heap a l) (calm : A.handled = none) (few : l.length < 64)
    (q : ∀ s' p (out : Array Value) (c : Nat) (ys : List Str), (∀ b o, s.heap.get? b = some o → s'.heap.get? b = some o) → s'.gens = s.gens → s'.os = s.os → s.heap.objs.size ≤ p → s'.heap.get? p = some (seqObj "list" out c) →
      StrsAre out.toList ys → ys.Perm l → sortedS ys = true → Q (.ref p) s') : wpAny (model P w) A (call (.builtin "sorted") [.ref a]) Q E s := by
  obtain ⟨D, e, ok, nd, ris, led⟩ := T
  have sz : D.1.size = l.length := ok.sz
  refine Calls.call_function_entry kind_sorted plain_sorted entry_sorted (args_sorted1 _) ?_; unfold Builtin.«sorted»
  refine wpAny_bind (m := checkCount "sorted" 1 1 _) (wpAny_pure (wpAny_bind (collect_set (A := A.in1) calm ⟨_, e, rfl, rfl⟩ ok.fit (by unfold scanBound; omega) ris led fun s1 vs k1 z1 g1 o1 pm => ?_)))
  have vl : vs.length = l.length := by rw [pm.length_eq, List.length_map, Array.length_toList]; exact sz
  have hs : StrsAre vs (vs.map strOf) := strs_map vs fun v hv => by
    obtain ⟨x, hx, rfl⟩ := List.mem_map.mp (pm.mem_iff.mp hv)
    obtain ⟨⟨k, hk, _⟩, _⟩ := ok.el x hx
    obtain ⟨t, h⟩ := Value.isStrOf_shape hk
    exact ⟨k, t, h⟩
  have pl : (vs.map strOf).Perm l := perm_in nd (fun x hx => by
    obtain ⟨z, hz, hk⟩ := (ok.mem x).mp hx
    obtain ⟨t, h⟩ := Value.isStrOf_shape hk
    exact List.mem_map.mpr ⟨z.2, pm.mem_iff.mpr (List.mem_map_of_mem hz), by rw [h]; rfl⟩) (by rw [List.length_map, vl]; exact Nat.le_refl _)
  refine wpAny_bind (wpAny_newList ?_ (by rw [vl, sizeLine_eq]; omega))
  have at1 : (s1.heap.push (seqObj "list" vs.toArray 0)).get? s1.heap.objs.size = some (seqObj "list" vs.toArray 0) := Heap.get?_push_size _ rfl
  refine wpAny_bind (wpAny_holding (wpAny_call_entry slot_list_sort ⟨_, at1, rfl⟩ entry_list_sort (list_sort_treeK strKind_oneLt at1 hs.keysOf (fun v₁ v₂ rest z => keyKind_strs (by rw [← z]; exact hs)) (by rw [vl]; exact few) fun st hp h => ?_) (args_list_sort _)))
  obtain ⟨ys, y1, y2, y3⟩ := sorted_out_str hs hp h
  obtain ⟨c, hc⟩ := sortedHeap_at (vs := vs) (out := (arrOf st).map (·.2)) at1
  refine ⟨_, rfl, ?_⟩
  refine wpAny_pure ⟨_, rfl, q _ s1.heap.objs.size _ c ys (fun b u z => ?_) g1 o1 z1 hc y1 (y2.trans pl) y3⟩
  have z' := k1 b u z
  have lt := Heap.lt_size z'
  show (sortedHeap (s1.heap.push (seqObj "list" vs.toArray 0)) s1.heap.objs.size vs _).get? b = some u
  rw [sortedHeap_old (Nat.ne_of_lt lt) (by rw [size_push']; exact Nat.lt_succ_of_lt lt)]; exact Heap.get?_push_of_some _ z'
end
section
variable {X : Cx}
/-- sorted(set(l)), l a list of texts, fewer than 64 -/
def tSortSet (K : PySem.W.Frag) (ta : TE) : TE := fun σ H Q => ta σ H fun x H1 => ∃ (l : Addr) (xs ws : List Str), x = .ref l ∧ SqL K H1 l (xs.map V.str) ∧ (∀ y ∈ xs, y ∈ ws) ∧ ws.length < 64 ∧
  ∀ (ys : List Str) (p : Addr), ys.Nodup → (∀ y, y ∈ ys ↔ y ∈ xs) → sortedS ys = true → H1 p = none → Q (.ref p) (upd H1 p (.lst (ys.map V.str)))
theorem pe_sortSet {a : Expr} {ta : TE} {p p2 q pos : Pos} (hc : X.calm = true) (hg : Gl X "sorted") (hm : X.mg "sorted" = none) (hg2 : Gl X "set") (hm2 : X.mg "set" = none) (ha : PE X a ta)
    (na : starEach [a] X.env = (false, eval a X.env) :: starEach [] X.env := by rfl) : PE X (.Call (.Name "sorted" p) [.Call (.Name "set" p2) [a] [] q] [] pos) (tSortSet X.K ta) := by
  refine ⟨fun pins s σ H Q I h => ?_⟩
  refine Call_ (ld_blt I hg hm boot_sorted (PyProof.Rows.callWith_builtin1 (PyProof.Rows.args_cons ?_ rfl) rfl rfl))
  refine Call_ (ld_blt I hg2 hm2 PyProof.Rows.boot_set (PyProof.Rows.callWith_type1 (PyProof.Rows.args_cons (thn (ha.run pins s σ H _ I h) fun v s1 ⟨x, H1, I1, r1, q1⟩ => PyProof.Rows.args_nil ?_) na) na rfl))
  obtain ⟨l, xs, ws, rfl, hq, hws, hw, q1⟩ := q1
  cases r1
  obtain ⟨its, r, pl, hz⟩ := I1.list hq
  refine set_texts xs (I1.ok.hd hc) pl.isList (by simpa using r.strs) (fun i => by have := nd_le (ones_nd (xs.take i)) (ks := ws) fun x hx => hws x (List.mem_of_mem_take (ones_mem.mp hx)); unfold scanBound; omega) fun h' tk T kp => ?_
  refine PyProof.Rows.args_nil ?_
  have I2 : Inv X pins σ H1 { s1 with heap := h', toks := tk } := I1.kept fun b o e => kp b o e
  have oneL : (ones xs).length < 64 := Nat.lt_of_le_of_lt (nd_le (ones_nd xs) fun x hx => hws x (ones_mem.mp hx)) hw
  have T2 : TxR X.prog X.w ({ s1 with heap := h', toks := tk } : Shared).heap s1.heap.objs.size (ones xs) := T
  generalize ({ s1 with heap := h', toks := tk } : Shared) = s2 at I2 T2 ⊢
  refine sorted_texts T2 (I2.ok.hd hc) oneL fun s' p out c ys k g o hp hg' hs pm so => ?_
  have hlen : (ys.map V.str).length ≤ sizeLine := by
    rw [List.length_map, pm.length_eq, sizeLine_eq]; omega
  have fr : H1 p = none := I2.hok.fresh hp
  have J : Inv X pins σ (upd H1 p (.lst (ys.map V.str))) { s2 with heap := s'.heap, gens := s'.gens, drawn := s'.drawn, toks := s'.toks } :=
    I2.call (ch := []) (Un.laid k hp fr) (I2.hok.laid k hp ⟨hlen, out.toList, c, vals_of_strs hs, hg'⟩) (by rw [g]; exact I2.bare) (fun _ z => nomatch z)
  have e : s' = { s2 with heap := s'.heap, gens := s'.gens, drawn := s'.drawn, toks := s'.toks } := by
    cases s'; cases s2; cases o; rfl
  rw [e]
  exact ⟨.ref p, _, J, rfl, q1 ys p (pm.nodup_iff.mpr (ones_nd xs)) (fun y => pm.mem_iff.trans ones_mem) so fr⟩
end
end MmT
namespace Mm
open PySem L2
open PyProof.Rows (envOfC)
/-! ### texts in order -/
def SrtT (l : List Str) : Prop := l.Pairwise fun x y => ¬ y.cps.toList < x.cps.toList
theorem le_le {a b c : List Nat} (h : ¬ b < a) (h2 : ¬ c < b) : ¬ c < a := fun z => by
  by_cases e : a = b
  · rw [e] at z; exact h2 z
  · exact h2 (lt_tr z (by
      by_cases w : a < b
      · exact w
      · exact (e (lt_tri w h)).elim))
theorem rising_srt : ∀ (l : List Str) (p : Str), PyProof.Rows.risingS p l = true → SrtT (p :: l)
  | [], p, _ => List.pairwise_cons.mpr ⟨(fun _ h => nomatch h), List.Pairwise.nil⟩
  | x :: l, p, h => by
    simp only [PyProof.Rows.risingS, Bool.and_eq_true, Bool.not_eq_true', PyProof.Rows.ltCps_eq, decide_eq_false_iff_not] at h
    have t := rising_srt l x h.2
    refine List.pairwise_cons.mpr ⟨fun y hy => ?_, t⟩
    rcases List.mem_cons.mp hy with rfl | hy
    · exact h.1
    · exact le_le h.1 ((List.pairwise_cons.mp t).1 y hy)
theorem sorted_srt : ∀ {l : List Str}, PyProof.Rows.sortedS l = true → SrtT l
  | [], _ => List.Pairwise.nil
  | x :: l, h => rising_srt l x h
theorem srtT_uniq : ∀ {l m : List Str}, SrtT l → SrtT m → l.Perm m → l = m
  | [], m, _, _, p => (List.nil_perm.mp p).symm
  | x :: l, [], _, _, p => (List.perm_nil.mp p)
  | x :: l, y :: m, h, h2, p => by
    obtain ⟨a1, a2⟩ := List.pairwise_cons.mp h
    obtain ⟨b1, b2⟩ := List.pairwise_cons.mp h2
    have e : x = y := by
      by_cases e : x = y
      · exact e
      · have hx : x ∈ m := ((List.mem_cons.mp (p.mem_iff.mp List.mem_cons_self)).resolve_left e)
        have hy : y ∈ l := ((List.mem_cons.mp (p.mem_iff.mpr List.mem_cons_self)).resolve_left fun z => e z.symm)
        exact str_ext (lt_tri (b1 x hx) (a1 y hy))
    subst e
    rw [srtT_uniq a2 b2 (List.Perm.cons_inv p)]
/-- these texts, each once -/
theorem srtT_same {l m : List Str} (h : SrtT l) (h2 : SrtT m) (n : l.Nodup) (n2 : m.Nodup) (e : ∀ x, x ∈ l ↔ x ∈ m) : l = m := by
  refine srtT_uniq h h2 ?_
  rcases Nat.le_total l.length m.length with z | z
  · exact MmT.perm_in n2 (fun x hx => (e x).mpr hx) z
  · exact (MmT.perm_in n (fun x hx => (e x).mp hx) z).symm
section
variable {X : Cx} {B : Bs}
theorem Reps.ofStrs {K : PySem.W.Frag} {H : Hp} : ∀ {ys : List Str}, Reps K H (ys.map D.str) (ys.map V.str)
  | [] => Reps.nil
  | _ :: _ => Reps.cons Rep.str Reps.ofStrs
/-- sorted(l), l a list of texts -/
def wSortS : RLm := fun ds m Q => match ds with
  | [.ref a] => ∃ xs : List Str, rdM m a = some (.lst (xs.map D.str)) ∧ xs.length < 64 ∧ ∀ ys, SrtT ys → ys.Perm xs → newO (.lst (ys.map D.str)) m Q
  | _ => False
theorem mc_sortedS : MCall X (.builtin "sorted") wSortS := mcall_of cr_sortedS fun ds vs H m Q Qm hx r q k => by
  unfold wSortS at q; split at q
  · obtain ⟨v, e, x⟩ := reps1 hx
    rw [Rep.ref_iff.mp x] at e
    obtain ⟨xs, h1, few, q⟩ := q
    obtain ⟨ws, s, rr⟩ := rd_lst r h1
    rw [Reps.strs rr] at s
    exact ⟨_, xs, e, s, few, fun ys p pm so h => k _ _ _ _ (q ys (sorted_srt so) pm p (r.out h)) (r.new h ⟨_, rfl, Reps.ofStrs⟩) (Step.new r h) Rep.ref⟩
  · exact q.elim
/-- sorted(set(l)), l a list of texts -/
def wSortSet (p : TEm) : TEm := fun ρ m Q => p ρ m fun d m1 => refAt d fun a => ∃ xs ws : List Str, rdM m1 a = some (.lst (xs.map D.str)) ∧ (∀ y ∈ xs, y ∈ ws) ∧ ws.length < 64 ∧ ∀ ys : List Str, ys.Nodup → (∀ y, y ∈ ys ↔ y ∈ xs) → SrtT ys → newO (.lst (ys.map D.str)) m1 Q
theorem mx_sortSet {a : Expr} {pa : TEm} {p p2 q pos : Pos} (hc : X.calm = true) (hm : X.mg "sorted" = none) (hm2 : X.mg "set" = none) (ha : MX X B a pa) (hg : Gl X "sorted" := by rfl) (hg2 : Gl X "set" := by rfl)
    (na : starEach [a] X.env = (false, eval a X.env) :: starEach [] X.env := by rfl) : MX X B (.Call (.Name "sorted" p) [.Call (.Name "set" p2) [a] [] q] [] pos) (wSortSet pa) :=
  peImp (MmT.pe_sortSet hc hg hm hg2 hm2 ha na) fun σ H Q ⟨ρ, m, Qm, A, q, k⟩ => by
    refine ⟨ρ, m, _, A, q, fun x m1 v H1 q1 r1 t1 x1 => ?_⟩
    unfold refAt at q1
    split at q1
    · obtain ⟨xs, ws, h1, hw, hl, q1⟩ := q1
      obtain ⟨zs, s, rr⟩ := rd_lst r1 h1
      rw [Reps.strs rr] at s
      exact ⟨_, xs, ws, Rep.ref_iff.mp x1, s, hw, hl, fun ys p nd mm so h => k _ _ _ _ (q1 ys nd mm (sorted_srt so) p (r1.out h)) (r1.new h ⟨_, rfl, Reps.ofStrs⟩) (t1.trans (Step.new r1 h)) Rep.ref⟩
    · exact q1.elim
theorem i_sortSet {p : TEm} {ρ : StM} {m : Mem} {Q : KM} (h : p ρ m fun d m1 => refAt d fun a => ∃ xs ws : List Str, rdM m1 a = some (.lst (xs.map D.str)) ∧ (∀ y ∈ xs, y ∈ ws) ∧ ws.length < 64 ∧ ∀ ys : List Str, ys.Nodup → (∀ y, y ∈ ys ↔ y ∈ xs) → SrtT ys → newO (.lst (ys.map D.str)) m1 Q) : wSortSet p ρ m Q := h
end
end Mm
/-! the lesser and the greater one of two texts -/
namespace MmT
open PySem PySem.Spec PyProof.Rows L2
section
variable {prog : Program} {w : World} {A : Around} {E : Value → Shared → Prop} {s : Shared}
/-- the two that are compared -/
abbrev duo (x y : Str) (t u : Tok) : Array Value := #[.str x t, .str y u]
def nth (x y : Str) (i : Nat) : Str := if i = 0 then x else y
theorem duo_at {x y : Str} {t u : Tok} (i : Nat) (v : Value) (h : (duo x y t u)[i]? = some v) : ∃ k, v = .str (nth x y i) k := by
  match i, h with
  | 0, h => exact ⟨t, (Option.some.inj h).symm⟩
  | 1, h => exact ⟨u, (Option.some.inj h).symm⟩
  | n + 2, h => simp [duo] at h
theorem less_of {x y : Str} {t u : Tok} : CmpOf prog w A .Lt (fun i v => (duo x y t u)[i]? = some v) (fun i j => decide ((nth x y i).cps.toList < (nth x y j).cps.toList)) := fun i j vi vj s Q E hi hj h => by
  obtain ⟨a, rfl⟩ := duo_at i vi hi
  obtain ⟨b, rfl⟩ := duo_at j vj hj
  exact richCompare_gives (op := .Lt) (typeIs_str s _ a) (typeIs_str s _ b) PySem.F.slot_str_lt PySem.F.entry_str_lt (PySem.F.args_str_lt_2 _ _) (gives_str_lt _ _ a b) (fun e => nomatch e) h
theorem more_of {x y : Str} {t u : Tok} : CmpOf prog w A .Gt (fun i v => (duo x y t u)[i]? = some v) (fun i j => decide ((nth x y j).cps.toList < (nth x y i).cps.toList)) := fun i j vi vj s Q E hi hj h => by
  obtain ⟨a, rfl⟩ := duo_at i vi hi
  obtain ⟨b, rfl⟩ := duo_at j vj hj
  exact richCompare_gives (op := .Gt) (typeIs_str s _ a) (typeIs_str s _ b) PySem.F.slot_str_gt PySem.F.entry_str_gt (PySem.F.args_str_gt_2 _ _) (gives_str_gt _ _ a b) (fun e => nomatch e) h
/-- the walk over the two -/
theorem duo_walk {x y : Str} {t u : Tok} {op : CmpOp} {bt : Nat → Nat → Bool} {Q : Value → Shared → Prop} (calm : A.handled = none) (cmp : CmpOf prog w A.in1 op (fun i v => (duo x y t u)[i]? = some v) bt)
    (h : ∀ h' tk, (∀ c o, s.heap.get? c = some o → h'.get? c = some o) → Q (if bt 1 0 = true then .str y u else .str x t) { s with heap := h', toks := tk }) :
    wpAny (model prog w) A.in1 (pyIter (.ref s.heap.objs.size)) (fun it s₂ => ∃ I fp wr n P St bt, it = .ref I ∧ Walks prog w A.in1 I fp wr n P St ∧ St 0 s₂.heap ∧ (∀ b ∈ fp, b < s₂.heap.objs.size) ∧ 0 < n ∧ CmpOf prog w A.in1 op P bt ∧
      ∀ v h' tk, P (argBest bt (n - 1)) v → (∀ b o, b ∉ wr → s₂.heap.get? b = some o → h'.get? b = some o) → Q v { s₂ with heap := h', toks := tk }) E { s with heap := s.heap.push { cls := .type "tuple", data := .seq #[.str x t, .str y u] } } := by
  have pair : (s.heap.push { cls := .type "tuple", data := .seq #[.str x t, .str y u] }).IsTuple s.heap.objs.size (duo x y t u) := ⟨_, Heap.get?_push_size _ rfl, rfl, 0, rfl⟩
  have size : (s.heap.push { cls := .type "tuple", data := .seq #[.str x t, .str y u] }).objs.size = s.heap.objs.size + 1 := Heap.size_push ..
  refine wpAny_pyIter_tuple pair ⟨_, [_, s.heap.objs.size], [_], 2, _, _, bt, rfl, Walks.tuple (A := A.in1) calm _ s.heap.objs.size (by rw [size]; exact Nat.ne_of_lt (Nat.lt_succ_self _)) (duo x y t u), ⟨⟨_, Heap.get?_push_size _ rfl, rfl, rfl⟩, pair.push _⟩, fun c hc => ?_, by decide, cmp, fun v h' tk at1 keep => ?_⟩
  · show c < ((s.heap.push _).push _).objs.size; rw [Heap.size_push, size]
    rcases List.mem_cons.mp hc with e | hc
    · rw [e, size]; exact Nat.lt_succ_self _
    · rw [List.mem_singleton.mp hc]; exact Nat.lt_succ_of_lt (Nat.lt_succ_self _)
  · have q := h h' tk fun c o e => keep c o (fun z => by
      have lt := Heap.lt_size e
      rw [List.mem_singleton.mp z, size] at lt
      exact Nat.lt_irrefl _ (Nat.lt_of_succ_lt lt)) (Heap.get?_push_of_some _ (Heap.get?_push_of_some _ e))
    have b : argBest bt (2 - 1) = if bt 1 0 = true then 1 else 0 := rfl
    rw [b] at at1
    by_cases z : bt 1 0 = true
    · rw [if_pos z] at at1 q; rw [← Option.some.inj at1]; exact q
    · rw [if_neg z] at at1 q; rw [← Option.some.inj at1]; exact q
theorem min_texts {x y : Str} {t u : Tok} {Q : Value → Shared → Prop} (calm : A.handled = none) (h : ∀ h' tk, (∀ c o, s.heap.get? c = some o → h'.get? c = some o) → Q (if decide (y.cps.toList < x.cps.toList) = true then .str y u else .str x t) { s with heap := h', toks := tk }) :
    wpAny (model prog w) A (call (.builtin "min") [.str x t, .str y u]) Q E s := call_min_two (duo_walk calm less_of h)
theorem max_texts {x y : Str} {t u : Tok} {Q : Value → Shared → Prop} (calm : A.handled = none) (h : ∀ h' tk, (∀ c o, s.heap.get? c = some o → h'.get? c = some o) → Q (if decide (x.cps.toList < y.cps.toList) = true then .str y u else .str x t) { s with heap := h', toks := tk }) :
    wpAny (model prog w) A (call (.builtin "max") [.str x t, .str y u]) Q E s := call_max_two (duo_walk calm more_of h)
end
section
variable {X : Cx}
def ltT (x y : Str) : Bool := decide (x.cps.toList < y.cps.toList)
theorem call_minT (hc : X.calm = true) : CallR X (.builtin "min") (fun xs H Q => ∃ i j : Str, xs = [.str i, .str j] ∧ Q (.str (if ltT j i = true then j else i)) H) := by
  intro pins s σ H xs us Q I r ⟨i, j, e, q⟩
  subst e
  obtain ⟨v, u, rfl, ⟨t, rfl⟩, ⟨t', rfl⟩⟩ := vals2 r
  refine min_texts (I.ok.hd hc) fun h' tk k => ⟨_, H, I.kept k, ?_, q⟩
  show RelV (.str (if ltT j i = true then j else i)) (if ltT j i = true then _ else _)
  split <;> exact ⟨_, rfl⟩
theorem call_maxT (hc : X.calm = true) : CallR X (.builtin "max") (fun xs H Q => ∃ i j : Str, xs = [.str i, .str j] ∧ Q (.str (if ltT i j = true then j else i)) H) := by
  intro pins s σ H xs us Q I r ⟨i, j, e, q⟩
  subst e
  obtain ⟨v, u, rfl, ⟨t, rfl⟩, ⟨t', rfl⟩⟩ := vals2 r
  refine max_texts (I.ok.hd hc) fun h' tk k => ⟨_, H, I.kept k, ?_, q⟩
  show RelV (.str (if ltT i j = true then j else i)) (if ltT i j = true then _ else _)
  split <;> exact ⟨_, rfl⟩
end
end MmT
namespace Mm
open PySem L2
section
variable {X : Cx}
def wMinT : RLm := fun ds m Q => match ds with
  | [.str i, .str j] => Q (.str (if MmT.ltT j i = true then j else i)) m
  | _ => False
def wMaxT : RLm := fun ds m Q => match ds with
  | [.str i, .str j] => Q (.str (if MmT.ltT i j = true then j else i)) m
  | _ => False
theorem mc_minT (hc : X.calm = true := by rfl) : MCall X (.builtin "min") wMinT := mcall_of (MmT.call_minT hc) fun ds vs H m Q Qm hx r q k => by
  unfold wMinT at q; split at q
  · obtain ⟨v, w, e, x, y⟩ := reps2 hx
    rw [Rep.str_iff.mp x, Rep.str_iff.mp y] at e
    exact ⟨_, _, e, k _ _ _ _ q r Step.refl Rep.str⟩
  · exact q.elim
theorem mc_maxT (hc : X.calm = true := by rfl) : MCall X (.builtin "max") wMaxT := mcall_of (MmT.call_maxT hc) fun ds vs H m Q Qm hx r q k => by
  unfold wMaxT at q; split at q
  · obtain ⟨v, w, e, x, y⟩ := reps2 hx
    rw [Rep.str_iff.mp x, Rep.str_iff.mp y] at e
    exact ⟨_, _, e, k _ _ _ _ q r Step.refl Rep.str⟩
  · exact q.elim
end
end Mm
/-! a tuple once, or not at all; an item of a list set anew -/
namespace MmT
open PySem PySem.Spec PyProof.Rows L2
set_option maxHeartbeats 4000000 in
theorem tup_once (l : Addr) (its : Array Value) (n : Nat) (dd : Option Addr) (sl : Array (Option Value)) (u : Tok) : Meets (Builtin.«tuple.__mul__» ⟨[.ref l, .int 1 u], []⟩) (fun _ R s => s.heap.get? l = some { cls := .type "tuple", dict := dd, data := .seq its n, slots := sl } ∧ R (.ok (.ret (.ref l))) s) :=
  .of_wp fun prog w A R s h => by
    obtain ⟨hp, g, d, tk, os⟩ := s
    obtain ⟨hl, h⟩ := h
    have f1 := AutoSeq1.idx_int
    wp_walk using wpAny_loadPart' hl
    exact ⟨_, rfl, h⟩
set_option maxHeartbeats 4000000 in
theorem tup_never (l : Addr) (its : Array Value) (n : Nat) (dd : Option Addr) (sl : Array (Option Value)) (u : Tok) (ne : its.isEmpty = false) : Meets (Builtin.«tuple.__mul__» ⟨[.ref l, .int 0 u], []⟩) (fun _ R s => s.heap.get? l = some { cls := .type "tuple", dict := dd, data := .seq its n, slots := sl } ∧ R (.ok (.ret (.ref s.heap.objs.size))) { s with heap := s.heap.push { cls := .type "tuple", data := .seq #[] } }) :=
  .of_wp fun prog w A R s h => by
    obtain ⟨hp, g, d, tk, os⟩ := s
    obtain ⟨hl, h⟩ := h
    have f1 := AutoSeq1.idx_int
    wp_walk using wpAny_loadPart' hl
    exact ⟨_, rfl, h⟩
section
variable {prog : Program} {w : World} {A : Around} {E : Value → Shared → Prop} {s : Shared}
theorem gather_tup {l : Addr} {vs : List Value} {Q : List Value → Shared → Prop} (hl : s.heap.IsTuple l vs.toArray) (few : vs.length ≤ sizeLine)
    (h : Q vs { s with heap := (s.heap.push (seqObj "list" #[] 0)).update s.heap.objs.size (Obj.mapSeq (· ++ vs.toArray)) }) : wpAny (model prog w) A (collect (.ref l)) Q E s := by
  obtain ⟨o, ho, oc, n, od⟩ := id hl
  unfold collect
  refine wpAny_bind (wpAny_runValue (codeAny_builtin entry_proto_collect' ?_)); show wpAny _ _ (do again (.builtin "list.__iadd__" ⟨[← newList [], .ref l], []⟩)) _ _ s
  refine wpAny_bind (wpAny_newList (wpAny_pure ⟨Code.quiet_builtin _ (by decide +kernel), codeAny_builtin entry_list_iadd' ?_⟩)); show wpAny _ _ (Builtin.List.listExtendWith (.ref s.heap.objs.size) (.ref l) (.ref s.heap.objs.size)) _ _ { s with heap := s.heap.push (seqObj "list" #[] 0) }
  unfold Builtin.List.listExtendWith
  have at1 : (s.heap.push (seqObj "list" #[] 0)).get? l = some o := Heap.get?_push_of_some _ ho
  refine wpAny_bind (wpAny_typeOf (T := "tuple") ⟨o, at1, oc⟩ ?_)
  have yes : (Value.type "tuple" == Value.type "tuple") = true := rfl
  rw [if_pos (by rw [yes]; simp)]
  refine wpAny_bind (listItems_at at1 od (wpAny_bind (listItems_at (xs := #[]) (n := 0) (Heap.get?_push_size _ rfl) rfl ?_)))
  rw [if_neg (by simp)]
  have fits : (#[] ++ vs.toArray : Array Value).size ≤ sizeLine + 1 := by simp only [Array.size_append, List.size_toArray, List.length_nil]; omega
  refine wpAny_bind (listUpdate_at (xs := #[]) (n := 0) (Heap.get?_push_size _ rfl) rfl (wpAny_pure ?_) (Nat.zero_le _) fits)
  show wpAny (model prog w) A (do
      let o' ← load s.heap.objs.size
      match o'.data with
      | .seq ys _ => pure ys.toList
      | _ => unsupported "internal:collect") Q E _
  refine wpAny_bind (wpAny_load (get?_update_seq (Heap.get?_push_size _ rfl) _) ?_); show wpAny _ _ (pure ((#[] : Array Value) ++ vs.toArray).toList) Q E _
  have same : ((#[] : Array Value) ++ vs.toArray).toList = vs := by simp
  rw [same]; exact wpAny_pure h
theorem sorted_tup {l : Addr} {vs : List Value} {xs : List Str} {Q : Value → Shared → Prop} (hl : s.heap.IsTuple l vs.toArray) (hS : StrsAre vs xs) (few : vs.length < 64)
    (h : ∀ (out : Array Value) (ys : List Str), StrsAre out.toList ys → ys.Perm xs → sortedS ys = true → Q (.ref (s.heap.objs.size + 1)) { s with heap := sortedAll s.heap vs out }) : wpAny (model prog w) A (call (.builtin "sorted") [.ref l]) Q E s := by
  refine Calls.call_function_entry kind_sorted plain_sorted entry_sorted (args_sorted1 _) ?_; unfold Builtin.«sorted»
  refine wpAny_bind (m := checkCount "sorted" 1 1 _) (wpAny_pure (wpAny_bind (gather_tup hl (by rw [sizeLine_eq]; omega) (wpAny_bind (wpAny_newList ?_ (by rw [sizeLine_eq]; omega))))))
  have size : ((s.heap.push (seqObj "list" #[] 0)).update s.heap.objs.size (Obj.mapSeq (· ++ vs.toArray))).objs.size = s.heap.objs.size + 1 := by rw [Heap.size_update, size_push']
  have at1 : (((s.heap.push (seqObj "list" #[] 0)).update s.heap.objs.size (Obj.mapSeq (· ++ vs.toArray))).push (seqObj "list" vs.toArray 0)).get? (s.heap.objs.size + 1) = some (seqObj "list" vs.toArray 0) := by rw [← size]; exact Heap.get?_push_size _ rfl
  show wpAny _ _ _ _ _ { s with heap := ((s.heap.push (seqObj "list" #[] 0)).update s.heap.objs.size (Obj.mapSeq (· ++ vs.toArray))).push (seqObj "list" vs.toArray 0) }; rw [size]
  refine wpAny_bind (wpAny_holding (wpAny_call_entry slot_list_sort ⟨_, at1, rfl⟩ entry_list_sort (list_sort_treeK strKind_oneLt at1 hS.keysOf (fun v₁ v₂ rest z => keyKind_strs (by rw [← z]; exact hS)) few fun st p q => ⟨_, rfl, ?_⟩) (args_list_sort _)))
  obtain ⟨ys, y1, y2, y3⟩ := sorted_out_str hS p q
  exact wpAny_pure ⟨_, rfl, h _ ys y1 y2 y3⟩
end
section
variable {X : Cx}
/-- sorted(t), t a tuple of texts -/
theorem cr_sortedTup : CallR X (.builtin "sorted") (fun vs H Q => ∃ (a : Addr) (xs : List Str), vs = [V.ref a] ∧ SqT X.K H a (xs.map V.str) ∧ xs.length < 64 ∧
    ∀ (ys : List Str) (p : Addr), ys.Perm xs → sortedS ys = true → H p = none → Q (.ref p) (upd H p (.lst (ys.map V.str)))) := by
  intro pins s σ H vs us Q I r ⟨a, xs, e, hT, few, q⟩
  subst e
  obtain ⟨its, rv, hl, _⟩ := I.tuple hT
  rw [Vals.ref1 r]
  have len := rv.length
  rw [List.length_map] at len
  refine sorted_tup hl rv.strs (by rw [← len]; exact few) fun out ys h1 h2 h3 => ?_
  obtain ⟨c, hc⟩ := sortedAll_at s.heap its out
  have fit : (ys.map V.str).length ≤ sizeLine := by rw [List.length_map, h2.length_eq]; exact small64 few
  exact ⟨.ref _, upd H (s.heap.objs.size + 1) (.lst (ys.map V.str)), I.laid (t' := s.toks) (fun _ _ => sortedAll_old) (Nat.le_succ _) ⟨fit, out.toList, c, vals_of_strs h1, hc⟩, rfl, q ys _ h2 h3 (I.hok.fresh (Nat.le_succ _))⟩
/-- a tuple of some items, once or not at all -/
def rOnce (K : PySem.W.Frag) : R2 := fun x y H Q => ∃ (l : Addr) (xs : List V), x = .ref l ∧ SqT K H l xs ∧ xs ≠ [] ∧ ((y = .int 1 ∧ Q (.ref l) H) ∨ (y = .int 0 ∧ ∀ p, H p = none → Q (.ref p) (upd H p (.tup []))))
theorem op_once : OpR X (binaryOp .Mult) (rOnce X.K) := by
  intro pins s σ H x y v u Q I rx ry ⟨l, xs, e, hT, ne, q⟩
  subst e
  cases rx
  obtain ⟨its, r, ⟨⟨oc, od, oa, os⟩, ho, k1, n, k2⟩, hs⟩ := I.tuple hT
  simp only at k1 k2; subst k1 k2
  have some' : its.toArray.isEmpty = false := by
    cases its with
    | nil => cases r; exact (ne rfl).elim
    | cons a b => rfl
  rcases q with ⟨rfl, q⟩ | ⟨rfl, q⟩
  · obtain ⟨t, rfl⟩ := ry
    exact wpAny_binaryOp_repeat_ref (T := "tuple") (U := "int") (by decide) ⟨_, ho, rfl⟩ (fun s' => typeIs_int s' 1 t) noFill_tuple_mul F.fills_int_mul F.slot_int_rmul repeat_tuple F.slot_int_index.lookup
      (call_meets F.slot_int_rmul (typeIs_int s 1 t) F.entry_int_rmul (F.args_int_rmul_2 _ _) (int_rmul_tuple 1 t l its.toArray n od os)
        ⟨ho, rfl, ⟨_, ho, rfl⟩, call_meets F.slot_tuple_mul ⟨_, ho, rfl⟩ F.entry_tuple_mul (F.args_tuple_mul_2 _ _) (tup_once l its.toArray n od os t) ⟨ho, ⟨.ref l, H, I, rfl, q⟩⟩⟩)
  · obtain ⟨t, rfl⟩ := ry
    refine wpAny_binaryOp_repeat_ref (T := "tuple") (U := "int") (by decide) ⟨_, ho, rfl⟩ (fun s' => typeIs_int s' 0 t) noFill_tuple_mul F.fills_int_mul F.slot_int_rmul repeat_tuple F.slot_int_index.lookup
      (call_meets F.slot_int_rmul (typeIs_int s 0 t) F.entry_int_rmul (F.args_int_rmul_2 _ _) (int_rmul_tuple 0 t l its.toArray n od os)
        ⟨ho, rfl, ⟨_, ho, rfl⟩, call_meets F.slot_tuple_mul ⟨_, ho, rfl⟩ F.entry_tuple_mul (F.args_tuple_mul_2 _ _) (tup_never l its.toArray n od os t some') ⟨ho, ?_⟩⟩)
    exact ⟨.ref s.heap.objs.size, _, I.laid (t' := s.toks) (o := .tup []) (fun b ob z => Heap.get?_push_of_some _ z) (Nat.le_refl _) ⟨Nat.zero_le _, [], .nil, IsTup.new _ _⟩, rfl, q _ (I.hok.fresh (Nat.le_refl _))⟩
end
end MmT
namespace Mm
open PySem L2
section
variable {X : Cx} {B : Bs} {o i : Expr} {pa pb : TEm} {pos : Pos}
def wOnce : R2m := fun x y m Q => match x, y with
  | .tup ds, .int k => ds ≠ [] ∧ ((k = 1 ∧ Q (.tup ds) m) ∨ (k = 0 ∧ Q (.tup []) m))
  | _, _ => False
theorem mo_once : MOp X (binaryOp .Mult) wOnce := mop_of MmT.op_once fun x y v w H m Q Qm hx hy r q k => by
  unfold wOnce at q
  split at q
  · obtain ⟨a, xs, e1, s1, r1⟩ := Rep.tup_iff.mp hx
    have e2 := Rep.int_iff.mp hy
    have h1 := r1.length
    obtain ⟨ne, q⟩ := q
    refine ⟨a, xs, e1, s1.sq, fun z => ne (by subst z; exact List.length_eq_zero_iff.mp h1), ?_⟩
    rcases q with ⟨rfl, q⟩ | ⟨rfl, q⟩
    · exact .inl ⟨e2, k _ _ _ _ q r Step.refl (by rw [← e1]; exact hx)⟩
    · exact .inr ⟨e2, fun p hp => k _ _ _ _ q (r.hid hp) (Step.hid r hp) (Rep.tup_iff.mpr ⟨p, _, rfl, TupAt.of upd_same, Reps.nil⟩)⟩
  · exact q.elim
def wSortTt : RLm := fun ds m Q => match ds with
  | [.tup es] => ∃ xs : List Str, es = xs.map D.str ∧ xs.length < 64 ∧ ∀ ys, SrtT ys → ys.Perm xs → newO (.lst (ys.map D.str)) m Q
  | _ => False
theorem mc_sortedTt : MCall X (.builtin "sorted") wSortTt := mcall_of MmT.cr_sortedTup fun ds vs H m Q Qm hx r q k => by
  unfold wSortTt at q; split at q
  · obtain ⟨v, e, x⟩ := reps1 hx
    obtain ⟨xs, rfl, few, q⟩ := q
    obtain ⟨a, ws, e2, s1, rr⟩ := Rep.tup_iff.mp x
    rw [e2] at e
    have s2 := s1.sq
    rw [Reps.strs rr] at s2
    exact ⟨_, xs, e, s2, few, fun ys p pm so h => k _ _ _ _ (q ys (sorted_srt so) pm p (r.out h)) (r.new h ⟨_, rfl, Reps.ofStrs⟩) (Step.new r h) Rep.ref⟩
  · exact q.elim
/-- o[i] = .., o a list -/
def gLput (pa pb : TEm) : TGm := fun d ρ m Q => pa ρ m fun x m1 => refAt x fun a => pb ρ m1 fun y m2 => ∃ (k : Int) (j : Nat) (xs : List D), y = .int k ∧ m2 a = some (.lst xs) ∧ ixN xs.length k = some j ∧ Q ρ (mput m2 a (.lst (xs.set j d)))
theorem mg_lput (ho : MX X B o pa) (hi : MX X B i pb)
    (ha : ∀ v, assign (.Subscript o i pos) X.env v = (do
      let ov ← holding [v] (eval o X.env)
      let iv ← holding [v, ov] (eval i X.env)
      standAt pos
      holding [v, ov, iv] (setItem ov iv v)
      release [v, ov, iv] []) := by intro _; rfl) : MG X B (.Subscript o i pos) (gLput pa pb) :=
  pgImp (pg_sub ho hi set_list ha) fun v σ H Q ⟨d, ρ, m, Qm, xd, A, q, n⟩ => by
    refine ⟨ρ, m, _, A, q, fun x m1 w H1 q1 r1 t1 x1 => ?_⟩
    unfold refAt at q1
    split at q1
    · refine ⟨ρ, m1, _, A.step r1 t1, q1, fun y m2 u H2 q2 r2 t2 x2 => ?_⟩
      obtain ⟨k, j, xs, rfl, e1, hj, q2⟩ := q2
      obtain ⟨uo, h1, vs, rfl, rr⟩ := r2 _ _ e1
      have t12 := t1.trans t2
      have st := Step.put (o := .lst (xs.set j d)) (u := .lst (vs.set j v)) r2 e1 trivial
      have rm := r2.put (o := .lst (xs.set j d)) (u := .lst (vs.set j v)) e1 trivial ⟨_, rfl, Reps.set (xd.stay (t12.tups A.r)) j rr⟩
      exact ⟨_, vs, k, j, Rep.ref_iff.mp x1, Rep.int_iff.mp x2, h1, by rw [← rr.length]; exact hj, n _ _ _ _ q2 rm (t12.trans st) (A.step rm (t12.trans st)).s⟩
    · exact q1.elim
end
end Mm
namespace Mm
open PySem L2
open PyProof.Rows (envOfC)

/-! numbers that are told -/
inductive Jn where
  | plus | minus | times | most | least
def Jn.w : Jn → Str
  | .plus => "plus" | .minus => "minus" | .times => "times" | .most => "most" | .least => "least"
def Jn.ap : Jn → Int → Int → Int
  | .plus, a, b => a + b | .minus, a, b => a - b | .times, a, b => a * b | .most, a, b => if b > a then b else a | .least, a, b => if b < a then b else a
inductive Told where
  | num (i : Int) | read (x : Str) | bin (j : Jn) (a b : Told)
def Told.d : Told → D
  | .num i => .tup [.str "num", .int i]
  | .read x => .tup [.str "read", .str x]
  | .bin j a b => .tup [.str j.w, a.d, b.d]
def Told.dp : Told → Nat
  | .bin _ a b => max a.dp b.dp + 1
  | _ => 0
abbrev Row := List (Str × Int)
def Row.o (r : Row) : O := .dK (r.map fun p => (.inr p.1, .int p.2))
def Row.at (r : Row) (x : Str) : Int := (r.lookup x).getD 0
def Told.val (r : Row) : Told → Int
  | .num i => i
  | .read x => r.at x
  | .bin j a b => j.ap (a.val r) (b.val r)
/-- its names stand in the row, its numbers are within -/
def Told.ok (r : Row) : Told → Prop
  | .num i => i.natAbs < 2 ^ 50
  | .read x => ∃ i, r.lookup x = some i ∧ i.natAbs < 2 ^ 50
  | .bin _ a b => a.ok r ∧ b.ok r
theorem row_val {r : Row} {x : Str} {i : Int} (h : r.lookup x = some i) : valD (r.map fun p => ((.inr p.1 : Key), D.int p.2)) (.inr x) = some (.int i) := by
  induction r with
  | nil => simp at h
  | cons p r ih =>
    obtain ⟨y, j⟩ := p
    by_cases e : x = y
    · subst e
      simp [List.lookup] at h
      subst h
      simp [valD]
    · have e2 : (x == y) = false := by simpa using e
      simp only [List.lookup, e2] at h
      have := ih h
      have e' : ¬ y = x := fun z => e z.symm
      simpa [valD, e'] using this
theorem pow_mono {a b : Nat} (h : a ≤ b) {n : Nat} (k : n < 2 ^ a) : n < 2 ^ b := Nat.lt_of_lt_of_le k (Nat.pow_le_pow_right (by decide) h)
theorem ap_small {j : Jn} {a b : Int} {n : Nat} (ha : a.natAbs < 2 ^ n) (hb : b.natAbs < 2 ^ n) (hn : 0 < n) : (j.ap a b).natAbs < 2 ^ (2 * n) := by
  have h2 : 2 ^ (n + 1) ≤ 2 ^ (2 * n) := Nat.pow_le_pow_right (by decide) (by omega)
  have h3 : 2 ^ (n + 1) = 2 ^ n + 2 ^ n := by rw [Nat.pow_succ]; omega
  cases j with
  | plus => show (a + b).natAbs < _; omega
  | minus => show (a - b).natAbs < _; omega
  | times =>
    show (a * b).natAbs < _
    have e : 2 * n = n + n := by omega
    rw [e]; exact wide_lt ha hb
  | most => show (if b > a then b else a).natAbs < _; split <;> omega
  | least => show (if b < a then b else a).natAbs < _; split <;> omega
theorem Told.small {r : Row} : ∀ {t : Told}, t.ok r → (t.val r).natAbs < 2 ^ (50 * 2 ^ t.dp)
  | .num i, h => h
  | .read x, ⟨i, e, h⟩ => by
    show (Row.at r x).natAbs < _
    unfold Row.at; rw [e]; exact h
  | .bin j a b, ⟨h1, h2⟩ => by
    have e : 50 * 2 ^ (Told.bin j a b).dp = 2 * (50 * 2 ^ max a.dp b.dp) := by show 50 * 2 ^ (max a.dp b.dp + 1) = _; rw [Nat.pow_succ]; omega
    rw [e]
    have m1 : 50 * 2 ^ a.dp ≤ 50 * 2 ^ max a.dp b.dp := Nat.mul_le_mul_left _ (Nat.pow_le_pow_right (by decide) (Nat.le_max_left _ _))
    have m2 : 50 * 2 ^ b.dp ≤ 50 * 2 ^ max a.dp b.dp := Nat.mul_le_mul_left _ (Nat.pow_le_pow_right (by decide) (Nat.le_max_right _ _))
    exact ap_small (pow_mono m1 (Told.small h1)) (pow_mono m2 (Told.small h2)) (by have : 0 < 2 ^ max a.dp b.dp := Nat.pow_pos (by decide); omega)
theorem two_pow_le {a b : Nat} (h : a ≤ b) : 2 ^ a ≤ 2 ^ b := Nat.pow_le_pow_right (by decide) h
theorem Told.wide {r : Row} {t u : Told} (h1 : t.ok r) (h2 : u.ok r) (d1 : t.dp ≤ 12) (d2 : u.dp ≤ 12) : CMulW (t.val r) (u.val r) := by
  have e1 : 50 * 2 ^ t.dp ≤ 50 * 2 ^ 12 := Nat.mul_le_mul_left _ (two_pow_le d1)
  have e2 : 50 * 2 ^ u.dp ≤ 50 * 2 ^ 12 := Nat.mul_le_mul_left _ (two_pow_le d2)
  exact wide_mul (pow_mono e1 (Told.small h1)) (pow_mono e2 (Told.small h2)) (by decide) (by decide) (by decide)

/-- a def as it stands -/
structure Df (K : PySem.W.Frag) (mg : Str → Option Value) (x : Str) (f : Addr) (fd : FuncData) (ps : List Str) : Prop where
  b : Binds K fd ps []
  k : PySem.W.keepIn K (.ref f) = true
  m : mg x = some (.ref f)
/-- built-ins that are not hidden -/
structure Bl (mg : Str → Option Value) : Prop where
  b_min : mg "min" = none
  b_int : mg "int" = none
  b_range : mg "range" = none
  b_isinstance : mg "isinstance" = none
  b_bool : mg "bool" = none
  b_str : mg "str" = none
  b_dict : mg "dict" = none
  b_all : mg "all" = none
  b_max : mg "max" = none
  b_len : mg "len" = none
  b_tuple : mg "tuple" = none
  b_list : mg "list" = none
  b_abs : mg "abs" = none
  b_sorted : mg "sorted" = none
structure Gv (K : PySem.W.Frag) (mg : Str → Option Value) : Prop where
  JOINS : GlT K mg "JOINS" (.tup [.str "plus", .str "minus", .str "times", .str "most", .str "least"])
  NONE : GlT K mg "NONE" (.tup [.str "none"])
  MOST_HOURS : GlT K mg "MOST_HOURS" (.int 99)
  GREATEST : GlT K mg "GREATEST" (.int 1000000000000)
theorem fn_none {P : Program} {w : World} {K : PySem.W.Frag} {mg : Str → Option Value} {base : Heap} {CX : CXT} {k : Nat} {f : Addr} {fd : FuncData} {ps : List Str} {sp : SpM} (h : ∀ ds m Q E, ¬ sp ds m Q E) : FnM P w K mg base CX k f fd ps sp :=
  ⟨fun vs H Q E ⟨ds, m, Qm, Em, _, _, z, _⟩ => (h _ _ _ _ z).elim, fun A outer s H args us vs Q E _ _ _ _ ⟨ds, m, Qm, Em, _, _, z, _⟩ => (h _ _ _ _ z).elim⟩
def topS (i : Nat) : Stmt := PySem.Challenge.pw_contractbook_k19_shorter_as_told.main.body.getD i (.Pass ⟨0, 0, 0, 0⟩)
variable {P : Program} {w : World} {K : PySem.W.Frag} {mg : Str → Option Value} {base : Heap}

local macro_rules | `(tactic| wtm_at "mem") => `(tactic| with_reducible first | assumption | exact mput_same | (apply mput_new; assumption; wtm_at "mem") | (apply mput_off; assumption; wtm_at "mem") | (apply mput_off'; assumption; wtm_at "mem") | (apply rd_K; wtm_at "mem") | (apply rd_L; wtm_at "mem") | (apply rd_T; wtm_at "mem") | (apply rd_I; wtm_at "mem") | (apply rd_frz; wtm_at "mem") | fail)
local macro_rules | `(tactic| wtm_at "dec") => `(tactic| first | with_reducible rfl | (simp only [isN, ofString_inj, decide_eq_true_eq, decide_eq_false_iff_not, String.reduceEq, reduceCtorEq, not_false_eq_true, decide_true, decide_false, Bool.not_true, Bool.not_false, Bool.not_eq_true', Bool.not_eq_false', Int.reduceLT, Int.reduceLE, Int.reduceEq]; done) | (decide) | (simp; done) | fail)
local macro_rules | `(tactic| wtm_at "get") => `(tactic| fail)
local macro_rules | `(tactic| wtm_at "len") => `(tactic| first | (simp; done) | fail)
local macro_rules | `(tactic| wtm_at "ty") => `(tactic| first | (with_reducible rfl) | assumption | (apply ty_L; wtm_at "mem") | (apply ty_K; wtm_at "mem") | rfl | fail)
local macro_rules | `(tactic| wtm_at "om") => `(tactic| first | assumption | (with_reducible decide) | omega | ((try dsimp only); omega) | fail)
local macro_rules | `(tactic| wtm_at "one") => `(tactic| first
  | (with_reducible first
  | refine i_bl ?_ | (apply i_var; (with_unfolding_all rfl))
  | refine i_seq ?_ | refine i_next ?_ | refine i_if ?_ | refine i_ret ?_ | refine i_set ?_
  | refine i_eqqS ?_ | refine i_eqqI ?_ | refine i_sub0 ?_ | refine i_sub1 ?_ | refine i_sub2 ?_ | (apply i_subT; (with_unfolding_all rfl)) | (apply i_subK; (focus (wtm_at "mem")); (focus (wtm_at "get"))) | refine i_I0 ?_ | refine i_plusI ?_
  | refine i_neqS ?_ | refine i_neqI ?_ | refine i_put ?_ | refine i_ref ?_
  | refine i_isN ?_ | refine i_notN ?_ | refine i_max2 ?_ | refine i_min2 ?_ | refine i_abs ?_ | refine i_intI ?_ | refine i_intB ?_
  | refine i_lenT ?_ | (apply i_lenL; (focus (wtm_at "mem"))) | refine i_listT ?_ | (apply i_listL; (focus (wtm_at "mem"))) | refine i_tupT ?_ | (apply i_tupL; (focus (wtm_at "mem"))) | refine i_neg ?_ | refine i_eqqB ?_ | refine i_neqB ?_
  | refine i_drop ?_ | refine i_retN ?_ | refine i_asg ?_ | refine i_par ?_ | refine i_gN ?_ | (apply i_gTup; (with_unfolding_all rfl)) | refine i_gC ?_ | refine i_gE ?_
  | refine i_for ?_ | refine i_lc ?_ | refine i_two ?_ | refine i_tupAt ?_ | refine i_int1 ?_ | refine i_int2 ?_ | refine i_intAt ?_ | refine i_slT ?_ | refine i_strAt ?_ | refine i_disp ?_ | refine i_pN ?_ | refine i_pC ?_ | (apply i_slL; (focus (wtm_at "mem")))
  | assumption)
  | ((with_reducible refine i_iteT ?_ ?_); (focus (wtm_at "dec"))) | ((with_reducible refine i_iteF ?_ ?_); (focus (wtm_at "dec")))
  | ((with_reducible refine i_dispE ?_ ?_ ?_); (focus (with_unfolding_all rfl)); (focus (wtm_at "len"))) | ((with_reducible apply i_isi); (focus (wtm_at "ty")); (focus (decide))) | ((with_reducible refine i_powL ?_ ?_); (focus (wtm_at "om"))) | ((with_reducible refine i_timesLL ?_ ?_); (focus (wtm_at "om"))) | ((with_reducible refine i_divW ?_ ?_ ?_); (focus (wtm_at "om")); (focus (wtm_at "om"))) | ((with_reducible refine i_mod ?_ ?_); (focus (wtm_at "om"))) | ((with_reducible refine And.intro (sl ?_) ?_); (focus (wtm_at "len"))) | ((with_reducible refine i_plusT (sl ?_) ?_); (focus (wtm_at "len"))) | assumption | (refine i_rt ?_; assumption))
local macro_rules | `(tactic| wtm_at "go") => `(tactic| ((try delta wBin wCons wNil wTest wCB wCall wTup wLst wC wAnd wOr wNot wAndV wOrV wNotV wIf wUn wChain iL iH iT iR1 iR2 iLS wApp wExt wPart wNoPart wSl wGet2 wJoin wAndT); repeat wtm_at "one"))

def spNum (n : Nat) : SpM := fun ds m Q _ => ∃ (t : Told) (a : Addr) (r : Row), ds = [t.d, .ref a] ∧ t.dp < n ∧ n ≤ 13 ∧ rdM m a = some r.o ∧ t.ok r ∧ Q (.int (t.val r)) m

/-! ### what is drawn: the draw's dict -/
structure Dr where
  sc : Addr
  nm : Addr
  at_ : Int
  size : Int
  place : Int
  turn : Int
  talk : Int
  rest : Int
  mixed : Int
def Dr.kvs (s : Dr) : List (Key × D) := [(.inr "numbers", .ref s.sc), (.inr "at", .int s.at_), (.inr "size", .int s.size), (.inr "place", .int s.place), (.inr "turn", .int s.turn), (.inr "talk", .int s.talk), (.inr "rest", .int s.rest), (.inr "names", .ref s.nm), (.inr "mixed", .int s.mixed)]
abbrev Dr.o (s : Dr) : O := .dK s.kvs
structure DrI (K : PySem.W.Frag) (m : Mem) (a : Addr) (s : Dr) : Prop where
  e : m a = some s.o
  sc : ∃ ns, LsK K m s.sc ns ∧ ns.length ≤ 63
  at0 : 0 ≤ s.at_
  rest0 : 0 ≤ s.rest
  mix0 : 0 ≤ s.mixed
  mix1 : s.mixed < 2147483647
/-- drawn on: but the place, the rest and the mixture all stays -/
def Dr.nx (s s' : Dr) : Prop := s'.sc = s.sc ∧ s'.nm = s.nm ∧ s'.size = s.size ∧ s'.place = s.place ∧ s'.turn = s.turn ∧ s'.talk = s.talk
theorem Dr.nx_refl {s : Dr} : s.nx s := ⟨rfl, rfl, rfl, rfl, rfl, rfl⟩
theorem Dr.nx_trans {s s' s2 : Dr} (a : s.nx s') (b : s'.nx s2) : s.nx s2 := by
  obtain ⟨a1, a2, a3, a4, a5, a6⟩ := a
  obtain ⟨b1, b2, b3, b4, b5, b6⟩ := b
  exact ⟨b1.trans a1, b2.trans a2, b3.trans a3, b4.trans a4, b5.trans a5, b6.trans a6⟩
theorem LsK.putD {K : PySem.W.Frag} {m : Mem} {a b : Addr} {o o' : O} {ns : List Int} (h : LsK K m a ns) (e : m b = some o) (w : ∀ ds, rdM m b ≠ some (.lst ds)) : LsK K (mput m b o') a ns := by
  rcases h with h | h
  · exact LsK.put (.inl h) fun z => by subst z; exact w _ h
  · exact .inr h
theorem DrI.rd {K : PySem.W.Frag} {m : Mem} {a : Addr} {s : Dr} (h : DrI K m a s) : rdM m a = some s.o := rd_of h.e trivial
/-- all else may change, too -/
theorem DrI.put {K : PySem.W.Frag} {m : Mem} {a : Addr} {s s' : Dr} (h : DrI K m a s) (e : s'.sc = s.sc) (h1 : 0 ≤ s'.at_) (h2 : 0 ≤ s'.rest) (h3 : 0 ≤ s'.mixed) (h4 : s'.mixed < 2147483647) : DrI K (mput m a s'.o) a s' := by
  obtain ⟨ns, l, z⟩ := h.sc
  refine ⟨mput_same, ⟨ns, by rw [e]; exact l.putD h.e fun ds z => (by rw [h.rd] at z; cases z), z⟩, h1, h2, h3, h4⟩
theorem DrI.new {K : PySem.W.Frag} {m : Mem} {a p : Addr} {s : Dr} {o : O} (h : DrI K m a s) (hp : m p = none) : DrI K (mput m p o) a s := by
  obtain ⟨ns, l, z⟩ := h.sc
  refine ⟨mput_new hp h.e, ⟨ns, ?_, z⟩, h.at0, h.rest0, h.mix0, h.mix1⟩
  rcases l with l | l
  · refine .inl ?_
    unfold rdM at l ⊢
    rw [mput_ne]; exact l
    rintro rfl; rw [hp] at l; cases l
  · exact .inr l
def spTaken (K : PySem.W.Frag) : SpM := fun ds m Q _ => ∃ (a : Addr) (k : Int) (s : Dr), ds = [.ref a, .int k] ∧ DrI K m a s ∧ 0 < k ∧ k ≤ 10 ^ 13 ∧
  ∀ r s', 0 ≤ r → r < k → s.nx s' → DrI K (mput m a s'.o) a s' → Q (.int r) (mput m a s'.o)
abbrev s__law_taken : Stmt := topS 22
theorem sc__law_taken : FnScope ["_law_s", "_law_most", "_law_found", "_law_number_here"] ["_law_s", "_law_most"] (defScope s__law_taken) := ⟨rfl, rfl, rfl, by decide +kernel, rfl, by decide +kernel, by decide +kernel⟩
theorem small_log {k : Int} (h0 : 0 < k) (h1 : k ≤ 10 ^ 13) : k.natAbs.log2 < 9000 := by
  have h2 : k.natAbs < 2 ^ 50 := by omega
  have := PySem.Flt.log2_lt_of (k := 50) (by decide) h2
  omega
theorem i_subS' {K : PySem.W.Frag} {m : Mem} {Q : KM} {a : Addr} {i n : Int} {ns : List Int} (h : LsK K m a ns) (e : atI ns i = some n) (q : Q (.int n) m) : wSubS K (.ref a) (.int i) m Q := ⟨ns, n, h, e, q⟩
theorem i_lenS' {K : PySem.W.Frag} {m : Mem} {Q : KM} {a : Addr} {ns : List Int} (h : LsK K m a ns) (q : Q (.int ns.length) m) : wLenS K [.ref a] m Q := ⟨ns, h, q⟩
theorem atI_some {α : Type} {xs : List α} {i : Int} (h0 : 0 ≤ i) (h1 : i < xs.length) : ∃ x, atI xs i = some x := by
  have e : i = ((i.toNat : Nat) : Int) := by omega
  rw [e]
  exact ⟨xs[i.toNat]'(by omega), atI_nat (by simp [show i.toNat < xs.length by omega])⟩
theorem Dr.g_numbers {s : Dr} : valD s.kvs (.inr "numbers") = some (.ref s.sc) := by
  simp [valD, Dr.kvs, ofString_inj]
theorem Dr.g_at {s : Dr} : valD s.kvs (.inr "at") = some (.int s.at_) := by
  simp [valD, Dr.kvs, ofString_inj]
theorem Dr.g_size {s : Dr} : valD s.kvs (.inr "size") = some (.int s.size) := by
  simp [valD, Dr.kvs, ofString_inj]
theorem Dr.g_place {s : Dr} : valD s.kvs (.inr "place") = some (.int s.place) := by
  simp [valD, Dr.kvs, ofString_inj]
theorem Dr.g_turn {s : Dr} : valD s.kvs (.inr "turn") = some (.int s.turn) := by
  simp [valD, Dr.kvs, ofString_inj]
theorem Dr.g_talk {s : Dr} : valD s.kvs (.inr "talk") = some (.int s.talk) := by
  simp [valD, Dr.kvs, ofString_inj]
theorem Dr.g_rest {s : Dr} : valD s.kvs (.inr "rest") = some (.int s.rest) := by
  simp [valD, Dr.kvs, ofString_inj]
theorem Dr.g_names {s : Dr} : valD s.kvs (.inr "names") = some (.ref s.nm) := by
  simp [valD, Dr.kvs, ofString_inj]
theorem Dr.g_mixed {s : Dr} : valD s.kvs (.inr "mixed") = some (.int s.mixed) := by
  simp [valD, Dr.kvs, ofString_inj]
local macro_rules | `(tactic| wtm_at "get") => `(tactic| with_reducible first | exact Dr.g_rest | exact Dr.g_at | exact Dr.g_numbers | exact Dr.g_names | exact Dr.g_mixed | exact Dr.g_size | exact Dr.g_place | exact Dr.g_turn | exact Dr.g_talk | fail)
theorem Dr.p_rest {s : Dr} {v : Int} : putD s.kvs (.inr "rest") (.int v) = Dr.kvs { s with rest := v } := by
  simp [putD, Dr.kvs, ofString_inj]
theorem Dr.p_at {s : Dr} {v : Int} : putD s.kvs (.inr "at") (.int v) = Dr.kvs { s with at_ := v } := by
  simp [putD, Dr.kvs, ofString_inj]
theorem Dr.p_mixed {s : Dr} {v : Int} : putD s.kvs (.inr "mixed") (.int v) = Dr.kvs { s with mixed := v } := by
  simp [putD, Dr.kvs, ofString_inj]
theorem Dr.p_names {s : Dr} {v : Addr} : putD s.kvs (.inr "names") (.ref v) = Dr.kvs { s with nm := v } := by
  simp [putD, Dr.kvs, ofString_inj]
theorem Dr.p_size {s : Dr} {v : Int} : putD s.kvs (.inr "size") (.int v) = Dr.kvs { s with size := v } := by
  simp [putD, Dr.kvs, ofString_inj]
theorem Dr.p_place {s : Dr} {v : Int} : putD s.kvs (.inr "place") (.int v) = Dr.kvs { s with place := v } := by
  simp [putD, Dr.kvs, ofString_inj]
theorem Dr.p_turn {s : Dr} {v : Int} : putD s.kvs (.inr "turn") (.int v) = Dr.kvs { s with turn := v } := by
  simp [putD, Dr.kvs, ofString_inj]
theorem Dr.p_talk {s : Dr} {v : Int} : putD s.kvs (.inr "talk") (.int v) = Dr.kvs { s with talk := v } := by
  simp [putD, Dr.kvs, ofString_inj]
theorem Dr.len {s : Dr} : s.kvs.length < sizeLine := by show 9 < sizeLine; decide
theorem ok_law_taken (Z : Bl mg) {k : Nat} {f__law_taken : Addr} {fd__law_taken : FuncData} (F : Fun K "_law_taken" "_law_taken" s__law_taken f__law_taken fd__law_taken) : FnM P w K mg base CX0 (k + 1) f__law_taken fd__law_taken ["_law_s", "_law_most"] (spTaken K) := by
  refine fn_m F sc__law_taken (fun ds m Q E h => ?_) (fun cdv A outer s H ds m Q E E' hr h => ?_)
  · obtain ⟨a, k, s, rfl, _⟩ := h; rfl
  have nd := sc__law_taken.nd
  obtain ⟨a, n, s, rfl, I, h0, h1, q⟩ := h
  refine ⟨_, (mss_cons (ms_if (mt_cmp mo_gt (mx_ix (mi_sub hr) (mv 0) mx_str) mx_int (nomark _)) (mss_cons (ms_set (i := 2) nd rfl (.inl rfl) (mx_op mo_mod (mx_ix (mi_sub hr) (mv 0) mx_str) (mv 1)))
    (mss_cons (ms_dput (hu1 hr) (mv 0) mx_str (mx_op mo_div (mx_ix (mi_sub hr) (mv 0) mx_str) (mv 1)))
    (mss_one (ms_ret (mv 2))))) mss_nil)
    (mss_cons (ms_dput (hu1 hr) (mv 0) mx_str (mx_op mo_plus (mx_ix (mi_sub hr) (mv 0) mx_str) mx_int))
    (mss_cons (ms_if (mt_cmp mo_le (mx_ix (mi_sub hr) (mv 0) mx_str) (mx_callB mc_lenS Z.b_len (ma_cons (mx_ix (mi_sub hr) (mv 0) mx_str) ma_nil)) (nomark _)) (mss_cons (ms_set (i := 3) nd rfl (.inl rfl) (mx_ix mi_subS (mx_ix (mi_sub hr) (mv 0) mx_str) (mx_op mo_sub (mx_ix (mi_sub hr) (mv 0) mx_str) mx_int)))
    (mss_cons (ms_dput (hu1 hr) (mv 0) mx_str (mx_op mo_times (mx_op mo_div (mv 3) (mv 1)) (mx_callTy mc_int1 Z.b_int (ma_cons (mx_cmp mo_ge (mv 3) (mx_op mo_pow mx_int mx_int) (nomark _)) ma_nil))))
    (mss_one (ms_ret (mx_op mo_mod (mv 3) (mv 1)))))) mss_nil)
    (mss_cons (ms_dput (hu1 hr) (mv 0) mx_str (mx_op mo_mod (mx_op mo_times (mx_ix (mi_sub hr) (mv 0) mx_str) mx_int) mx_int))
    (mss_one (ms_ret (mx_if (mt_cmp mo_gt (mv 1) (mx_op mo_pow mx_int mx_int) (nomark _)) (mx_op mo_mod (mx_op mo_pow (mx_op mo_div (mx_ix (mi_sub hr) (mv 0) mx_str) mx_int) mx_int) (mv 1)) (mx_op mo_mod (mx_op mo_div (mx_ix (mi_sub hr) (mv 0) mx_str) mx_int) (mv 1))))))))), ?_⟩
  have e0 : m a = some (.dK s.kvs) := I.e
  have re : rdM m a = some (.dK s.kvs) := I.rd
  obtain ⟨ns, hL, hz⟩ := I.sc
  have fin : ∀ (r at' rest' mixed' : Int), 0 ≤ r → r < n → 0 ≤ at' → 0 ≤ rest' → 0 ≤ mixed' → mixed' < 2147483647 → Q (.int r) (mput m a (.dK (Dr.kvs { s with at_ := at', rest := rest', mixed := mixed' }))) := fun r at' rest' mixed' h2 h3 h4 h5 h6 h7 =>
    q r _ h2 h3 ⟨rfl, rfl, rfl, rfl, rfl, rfl⟩ (I.put rfl h4 h5 h6 h7)
  have hat := I.at0
  have hrest := I.rest0
  have hm0 := I.mix0
  have hm1 := I.mix1
  have hlog := small_log h0 h1
  wtm_at "go"
  refine i_ite (fun c => ?_) (fun c => ?_)
  · have c' : 0 < s.rest := of_decide_eq_true c
    wtm_at "go"
    refine i_putK e0 Dr.len ?_
    rw [Dr.p_rest]
    wtm_at "go"
    refine RtM.mk (fin _ _ _ _ (Int.emod_nonneg _ (by wtm_at "om")) (Int.emod_lt_of_pos _ h0) hat (Int.ediv_nonneg hrest (by wtm_at "om")) hm0 hm1)
  · wtm_at "go"
    refine i_putK e0 Dr.len ?_
    rw [Dr.p_at]
    wtm_at "go"
    have hL1 : LsK K (mput m a (.dK (Dr.kvs { s with at_ := s.at_ + 1 }))) s.sc ns := hL.putD e0 fun ds z => by rw [re] at z; cases z
    refine i_lenS' hL1 ?_
    wtm_at "go"
    refine i_ite (fun c => ?_) (fun c => ?_)
    · have c' : s.at_ + 1 ≤ ns.length := of_decide_eq_true c
      wtm_at "go"
      obtain ⟨v, hv⟩ := atI_some (xs := ns) (i := s.at_ + 1 - 1) (by wtm_at "om") (by wtm_at "om")
      refine i_subS' hL1 hv ?_
      wtm_at "go"
      refine i_putK mput_same Dr.len ?_
      rw [Dr.p_rest, mput_mput]
      wtm_at "go"
      refine RtM.mk (fin _ _ _ _ (Int.emod_nonneg _ (by wtm_at "om")) (Int.emod_lt_of_pos _ h0) (by wtm_at "om") ?_ hm0 hm1)
      by_cases cv : 10 ^ (18 : Int).toNat ≤ v
      · rw [decide_eq_true cv]
        have : 0 ≤ v := Int.le_trans (by decide) cv
        have := Int.ediv_nonneg this (show 0 ≤ n by omega)
        simpa using this
      · rw [decide_eq_false cv]; simp
    · wtm_at "go"
      refine i_putK mput_same Dr.len ?_
      rw [Dr.p_mixed, mput_mput]
      wtm_at "go"
      have g0 : 0 ≤ s.mixed * 48271 % 2147483647 := Int.emod_nonneg _ (by decide)
      have g1 : s.mixed * 48271 % 2147483647 < 2147483647 := Int.emod_lt_of_pos _ (by decide)
      refine i_ite (fun c => ?_) (fun c => ?_)
      · wtm_at "go"
        refine RtM.mk (fin _ _ _ _ (Int.emod_nonneg _ (by wtm_at "om")) (Int.emod_lt_of_pos _ h0) (by wtm_at "om") hrest g0 g1)
      · wtm_at "go"
        refine RtM.mk (fin _ _ _ _ (Int.emod_nonneg _ (by wtm_at "om")) (Int.emod_lt_of_pos _ h0) (by wtm_at "om") hrest g0 g1)
theorem DrI.put' {K : PySem.W.Frag} {m : Mem} {a : Addr} {s s' s2 : Dr} (h : DrI K (mput m a s.o) a s') (e : mput (mput m a s.o) a s2.o = mput m a s2.o := mput_mput) : True := trivial
/-- what a drawing that makes nothing new leaves: only the draw goes on -/
def DrQ (K : PySem.W.Frag) (a : Addr) (s : Dr) (m : Mem) (C : D → Prop) (Q : KM) : Prop := ∀ d s', C d → s.nx s' → DrI K (mput m a s'.o) a s' → Q d (mput m a s'.o)
theorem spTaken.mk {K : PySem.W.Frag} {m : Mem} {Q : KM} {Em : XM} {a : Addr} {k : Int} {s : Dr} (I : DrI K m a s) (h0 : 0 < k) (h1 : k ≤ 10 ^ 13)
    (q : ∀ r s', 0 ≤ r → r < k → s.nx s' → DrI K (mput m a s'.o) a s' → Q (.int r) (mput m a s'.o)) : spTaken K [.ref a, .int k] m Q Em := ⟨a, k, s, rfl, I, h0, h1, q⟩
def spNumber (K : PySem.W.Frag) : SpM := fun ds m Q _ => ∃ (a : Addr) (s : Dr), ds = [.ref a] ∧ DrI K m a s ∧
  ∀ (v : Int) s', v.natAbs < 10 ^ 12 → s.nx s' → DrI K (mput m a s'.o) a s' → Q (.int v) (mput m a s'.o)
abbrev s__law_number : Stmt := topS 24
theorem sc__law_number : FnScope ["_law_s"] ["_law_s"] (defScope s__law_number) := ⟨rfl, rfl, rfl, by decide +kernel, rfl, by decide +kernel, by decide +kernel⟩
theorem ok_law_number {k : Nat} {f__law_taken : Addr} {fd__law_taken : FuncData} (D__law_taken : Df K mg "_law_taken" f__law_taken fd__law_taken ["_law_s", "_law_most"]) (G__law_taken : FnM P w K mg base CX0 (k) f__law_taken fd__law_taken ["_law_s", "_law_most"] (spTaken K)) {f__law_number : Addr} {fd__law_number : FuncData} (F : Fun K "_law_number" "_law_number" s__law_number f__law_number fd__law_number) : FnM P w K mg base CX0 (k + 1) f__law_number fd__law_number ["_law_s"] (spNumber K) := by
  refine fn_m F sc__law_number (fun ds m Q E h => ?_) (fun cdv A outer s H ds m Q E E' hr h => ?_)
  · obtain ⟨a, s, rfl, _⟩ := h; rfl
  have nd := sc__law_number.nd
  obtain ⟨a, s, rfl, I, q⟩ := h
  refine ⟨_, (mss_cons (ms_if (mt_cmp (mo_eqq hr) (mx_call (Em := noX) G__law_taken hr D__law_taken.m D__law_taken.k D__law_taken.b pass0M (ma_cons (mv 0) (ma_cons mx_int ma_nil))) mx_int (nomark _)) (mss_one (ms_ret (mx_op mo_plus (mx_op mo_sub (mx_call (Em := noX) G__law_taken hr D__law_taken.m D__law_taken.k D__law_taken.b pass0M (ma_cons (mv 0) (ma_cons (mx_op mo_sub (mx_op mo_times mx_int (mx_op mo_pow mx_int mx_int)) mx_int) ma_nil))) (mx_op mo_pow mx_int mx_int)) mx_int))) mss_nil)
    (mss_one (ms_ret (mx_op mo_sub (mx_call (Em := noX) G__law_taken hr D__law_taken.m D__law_taken.k D__law_taken.b pass0M (ma_cons (mv 0) (ma_cons mx_int ma_nil))) mx_int)))), ?_⟩
  wtm_at "go"
  refine spTaken.mk I (by decide) (by decide) fun r s1 h0 h1 n1 I1 => ?_
  wtm_at "go"
  refine i_ite (fun c => ?_) (fun c => ?_)
  · wtm_at "go"
    refine spTaken.mk I1 (by decide) (by decide) fun r s2 h0 h1 n2 I2 => ?_
    rw [mput_mput] at I2 ⊢
    wtm_at "go"
    have e12 : (10 : Int) ^ Int.toNat 12 = 1000000000000 := rfl
    exact RtM.mk (q _ _ (by omega) (Dr.nx_trans n1 n2) I2)
  · wtm_at "go"
    refine spTaken.mk I1 (by decide) (by decide) fun r s2 h0 h1 n2 I2 => ?_
    rw [mput_mput] at I2 ⊢
    wtm_at "go"
    exact RtM.mk (q _ _ (by omega) (Dr.nx_trans n1 n2) I2)

theorem Sub.put {m m' : Mem} {a : Addr} {o : O} (h : Sub m m') : Sub (mput m a o) (mput m' a o) := fun b u e => by
  by_cases c : b = a
  · subst c; rw [mput_same] at e ⊢; exact e
  · rw [mput_ne c] at e ⊢; exact h b u e
theorem Sub.new {m m' : Mem} {p : Addr} {o : O} (h : Sub m m') (hp : m' p = none) : Sub m (mput m' p o) := fun b u e => mput_new hp (h b u e)
theorem atI_mem {α : Type} {xs : List α} {i : Int} {x : α} (h : atI xs i = some x) : x ∈ xs := by
  unfold atI at h
  cases q : ixN xs.length i with
  | none => rw [q] at h; cases h
  | some j =>
    rw [q] at h
    exact List.mem_of_getElem? h
theorem RtM.sub {Q : KM} {d : D} {m m' : Mem} (s : Sub m m') (h : Q d m) : RtM Q d m' := ⟨m, s, h⟩
/-- the names that the draw holds -/
def DrN (m : Mem) (s : Dr) (nms : List Str) : Prop := rdM m s.nm = some (.lst (nms.map D.str)) ∧ nms.length ≤ 20
theorem DrN.put {K : PySem.W.Frag} {m : Mem} {a : Addr} {s s' : Dr} {nms : List Str} (h : DrN m s nms) (I : DrI K m a s) (n : s.nx s') : DrN (mput m a s'.o) s' nms := by
  refine ⟨?_, h.2⟩
  rw [n.2.1]
  have h1 := h.1
  have ne : s.nm ≠ a := by
    intro e
    rw [e, I.rd] at h1; cases h1
  unfold rdM at h1 ⊢
  rw [mput_ne ne]; exact h1
theorem rdM_new {m : Mem} {p a : Addr} {o u : O} (hp : m p = none) (h : rdM m a = some u) : rdM (mput m p o) a = some u := by
  unfold rdM at h ⊢
  rw [mput_ne]; exact h
  rintro rfl; rw [hp] at h; cases h
theorem rdM_off {m : Mem} {p a : Addr} {o u : O} (hp : a ≠ p) (h : rdM m a = some u) : rdM (mput m p o) a = some u := by
  unfold rdM at h ⊢
  rw [mput_ne hp]; exact h
theorem DrN.new {m : Mem} {p : Addr} {o : O} {s : Dr} {nms : List Str} (h : DrN m s nms) (hp : m p = none) : DrN (mput m p o) s nms := ⟨rdM_new hp h.1, h.2⟩
/-- told of names -/
def Told.of (nms : List Str) : Told → Prop
  | .num i => i.natAbs < 10 ^ 12
  | .read x => x ∈ nms
  | .bin _ a b => a.of nms ∧ b.of nms
def spTold (K : PySem.W.Frag) (n : Nat) : SpM := fun ds m Q _ => ∃ (a : Addr) (s : Dr) (nms : List Str) (dp : Nat), ds = [.ref a, .int dp] ∧ dp < n ∧ DrI K m a s ∧ DrN m s nms ∧
  ∀ (t : Told) s', t.dp ≤ dp → t.of nms → s.nx s' → DrI K (mput m a s'.o) a s' → Q t.d (mput m a s'.o)
abbrev s__law_told : Stmt := topS 25
theorem sc__law_told : FnScope ["_law_s", "_law_deep", "_law_way", "_law_one"] ["_law_s", "_law_deep"] (defScope s__law_told) := ⟨rfl, rfl, rfl, by decide +kernel, rfl, by decide +kernel, by decide +kernel⟩
theorem ok_law_told {k n : Nat} (Z : Bl mg) {f__law_taken : Addr} {fd__law_taken : FuncData} (D__law_taken : Df K mg "_law_taken" f__law_taken fd__law_taken ["_law_s", "_law_most"]) (G__law_taken : FnM P w K mg base CX0 (k) f__law_taken fd__law_taken ["_law_s", "_law_most"] (spTaken K)) {f__law_number : Addr} {fd__law_number : FuncData} (D__law_number : Df K mg "_law_number" f__law_number fd__law_number ["_law_s"]) (G__law_number : FnM P w K mg base CX0 (k) f__law_number fd__law_number ["_law_s"] (spNumber K)) {f__law_told : Addr} {fd__law_told : FuncData} (D__law_told : Df K mg "_law_told" f__law_told fd__law_told ["_law_s", "_law_deep"]) (G__law_told : FnM P w K mg base CX0 (k) f__law_told fd__law_told ["_law_s", "_law_deep"] (spTold K n)) (F : Fun K "_law_told" "_law_told" s__law_told f__law_told fd__law_told) : FnM P w K mg base CX0 (k + 1) f__law_told fd__law_told ["_law_s", "_law_deep"] (spTold K (n + 1)) := by
  refine fn_m F sc__law_told (fun ds m Q E h => ?_) (fun cdv A outer s H ds m Q E E' hr h => ?_)
  · obtain ⟨a, s, nms, dp, rfl, _⟩ := h; rfl
  have nd := sc__law_told.nd
  obtain ⟨a, s, nms, dp, rfl, hd, I, hN, q⟩ := h
  refine ⟨_, (mss_cons (ms_set (i := 2) nd rfl (.inl rfl) (mx_call (Em := noX) G__law_taken hr D__law_taken.m D__law_taken.k D__law_taken.b pass0M (ma_cons (mv 0) (ma_cons mx_int ma_nil))))
    (mss_cons (ms_if (mw_pt (mw_or (mt_cmp mo_lt (mv 2) mx_int (nomark _)) (mw_or1 (mt_cmp (mo_eqq hr) (mv 1) mx_int (nomark _))))) (mss_cons (ms_if (mw_pt (mw_and (mt_cmp (mo_eqq hr) (mx_op mo_mod (mv 2) mx_int) mx_int (nomark _)) (mw_and1 (mt_cmp mo_gt (mx_callB mc_len1 Z.b_len (ma_cons (mx_ix (mi_sub hr) (mv 0) mx_str) ma_nil)) mx_int (nomark _))))) (mss_one (ms_ret (mx_tup (ma_cons mx_str (ma_cons (mx_ix (mi_sub hr) (mx_ix (mi_sub hr) (mv 0) mx_str) (mx_call (Em := noX) G__law_taken hr D__law_taken.m D__law_taken.k D__law_taken.b pass0M (ma_cons (mv 0) (ma_cons (mx_callB mc_len1 Z.b_len (ma_cons (mx_ix (mi_sub hr) (mv 0) mx_str) ma_nil)) ma_nil)))) ma_nil))))) mss_nil)
    (mss_one (ms_ret (mx_tup (ma_cons mx_str (ma_cons (mx_call (Em := noX) G__law_number hr D__law_number.m D__law_number.k D__law_number.b pass0M (ma_cons (mv 0) ma_nil)) ma_nil)))))) mss_nil)
    (mss_cons (ms_set (i := 3) nd rfl (.inl rfl) (mx_call (Em := noX) G__law_told hr D__law_told.m D__law_told.k D__law_told.b pass0M (ma_cons (mv 0) (ma_cons (mx_op mo_sub (mv 1) mx_int) ma_nil))))
    (mss_one (ms_ret (mx_tup (ma_cons (mx_ix (mi_sub hr) (mx_lst (ma_cons mx_str (ma_cons mx_str (ma_cons mx_str (ma_cons mx_str (ma_cons mx_str ma_nil)))))) (mx_op mo_sub (mv 2) mx_int)) (ma_cons (mv 3) (ma_cons (mx_call (Em := noX) G__law_told hr D__law_told.m D__law_told.k D__law_told.b pass0M (ma_cons (mv 0) (ma_cons (mx_op mo_sub (mv 1) mx_int) ma_nil))) ma_nil))))))))), ?_⟩
  wtm_at "go"
  refine spTaken.mk I (by decide) (by decide) fun way s1 h0 h1 n1 I1 => ?_
  have N1 := hN.put I n1
  have N1l := N1.1
  have e2 : ∀ s1 s' : Dr, mput (mput m a s1.o) a s'.o = mput m a s'.o := fun s1 s' => mput_mput
  have e1 : ∀ s' : Dr, mput (mput m a s1.o) a s'.o = mput m a s'.o := fun s' => mput_mput
  have I1e := I1.e
  have I1r := I1.rd
  wtm_at "go"
  refine i_ite (fun c => ?_) (fun c => ?_)
  rotate_left
  wtm_at "go"
  refine i_ite (fun c' => ?_) (fun c' => ?_)
  rotate_left
  · have c1 : ¬ way < 3 := of_decide_eq_false c
    have c2 : ¬ (dp : Int) = 0 := of_decide_eq_false c'
    have ed : (dp : Int) - 1 = ((dp - 1 : Nat) : Int) := by omega
    wtm_at "go"
    rw [ed]
    refine ⟨a, s1, nms, dp - 1, rfl, by omega, I1, N1, fun t1 s2 d1 o1 n2 I2 => ?_⟩
    rw [e1] at I2 ⊢
    have N2 := N1.put I1 n2
    rw [e1] at N2
    wtm_at "go"
    intro p hp
    obtain ⟨j, hj⟩ : ∃ j : Jn, atI [D.str (Str.ofString "plus"), .str (Str.ofString "minus"), .str (Str.ofString "times"), .str (Str.ofString "most"), .str (Str.ofString "least")] (way - 3) = some (.str j.w) := by
      have : way = 3 ∨ way = 4 ∨ way = 5 ∨ way = 6 ∨ way = 7 := by omega
      rcases this with rfl | rfl | rfl | rfl | rfl
      · exact ⟨.plus, rfl⟩
      · exact ⟨.minus, rfl⟩
      · exact ⟨.times, rfl⟩
      · exact ⟨.most, rfl⟩
      · exact ⟨.least, rfl⟩
    wtm_at "go"
    refine i_subL (rd_L mput_same) hj ?_
    wtm_at "go"
    rw [ed]
    refine ⟨a, s2, nms, dp - 1, rfl, by omega, I2.new hp, N2.new hp, fun t2 s3 d2 o2 n3 I3 => ?_⟩
    have I3' : DrI K (mput m a s3.o) a s3 := by
      have := DrI.put (s' := s3) I2 n3.1 I3.at0 I3.rest0 I3.mix0 I3.mix1
      rw [e2] at this; exact this
    wtm_at "go"
    refine RtM.sub ?_ (q (.bin j t1 t2) s3 ?_ ⟨o1, o2⟩ (Dr.nx_trans n1 (Dr.nx_trans n2 n3)) I3')
    · rw [← e2 s2 s3]; exact Sub.put (Sub.refl.new hp)
    · show max t1.dp t2.dp + 1 ≤ dp
      omega
  all_goals (
    wtm_at "go"
    refine i_ite (fun c3 => ?_) (fun c3 => ?_)
    · wtm_at "go"
      refine i_ite (fun c4 => ?_) (fun c4 => ?_)
      · have c5 : 0 < ((nms.map D.str).length : Int) := of_decide_eq_true c4
        have c6 := hN.2
        wtm_at "go"
        refine spTaken.mk I1 c5 (by rw [List.length_map]; omega) fun i s2 h2 h3 n2 I2 => ?_
        rw [e1] at I2 ⊢
        have N2 := N1.put I1 n2
        rw [e1] at N2
        obtain ⟨x, hx⟩ := atI_some (xs := nms.map D.str) h2 h3
        have hx' := hx
        obtain ⟨y, hy, rfl⟩ := List.mem_map.mp (atI_mem hx')
        have nme := n2.2.1
        wtm_at "go"
        refine i_subL (by rw [← nme]; exact N2.1) hx ?_
        wtm_at "go"
        exact RtM.mk (q (.read y) s2 (Nat.zero_le _) hy (Dr.nx_trans n1 n2) I2)
      · wtm_at "go"
        refine ⟨a, s1, rfl, I1, fun v s2 hv n2 I2 => ?_⟩
        rw [e1] at I2 ⊢
        wtm_at "go"
        exact RtM.mk (q (.num v) s2 (Nat.zero_le _) hv (Dr.nx_trans n1 n2) I2)
    · wtm_at "go"
      refine ⟨a, s1, rfl, I1, fun v s2 hv n2 I2 => ?_⟩
      rw [e1] at I2 ⊢
      wtm_at "go"
      exact RtM.mk (q (.num v) s2 (Nat.zero_le _) hv (Dr.nx_trans n1 n2) I2))

/-- the draw as it begins -/
structure DrB (s : Dr) : Prop where
  z0 : 1 ≤ s.size
  z1 : s.size ≤ 8
  p0 : 0 ≤ s.place
  p1 : s.place < s.size
  t0 : 0 ≤ s.turn
  t1 : s.turn < 26
  k : s.talk = 0 ∨ s.talk = 1
theorem DrB.nx {s s' : Dr} (b : DrB s) (n : s.nx s') : DrB s' := by
  obtain ⟨_, _, h1, h2, h3, h4⟩ := n
  obtain ⟨b1, b2, b3, b4, b5, b6, b7⟩ := b
  exact ⟨by omega, by omega, by omega, by omega, by omega, by omega, by omega⟩
def spBegun (K : PySem.W.Frag) : SpM := fun ds m Q _ => ∃ (c : Addr) (ns : List Int), ds = [.ref c] ∧ LsK K m c ns ∧ ns.length ≤ 63 ∧
  ∀ a s m', m' a = some s.o → m a = none → Sub m m' → DrI K m' a s → DrB s → DrN m' s [] → s.nm ≠ a → Q (.ref a) m'
abbrev s__law_begun : Stmt := topS 21
theorem sc__law_begun : FnScope ["_law_script", "_law_mixed", "_law_cell", "_law_s"] ["_law_script"] (defScope s__law_begun) := ⟨rfl, rfl, rfl, by decide +kernel, rfl, by decide +kernel, by decide +kernel⟩
theorem LsK.sub {K : PySem.W.Frag} {m m' : Mem} {a : Addr} {ns : List Int} (h : LsK K m a ns) (s : Sub m m') : LsK K m' a ns := by
  rcases h with h | h
  · refine .inl ?_
    unfold rdM at h ⊢
    cases e : m a with
    | none => rw [e] at h; cases h
    | some o => rw [e] at h; rw [s _ _ e]; exact h
  · exact .inr h
theorem Dr.put_names {s : Dr} {x : Addr} : putD (List.take 7 s.kvs) (.inr "names") (.ref x) = List.take 8 (Dr.kvs { s with nm := x }) := by
  simp [putD, Dr.kvs, ofString_inj]
theorem Dr.put_mixed {s : Dr} {x : Int} : putD (List.take 8 s.kvs) (.inr "mixed") (.int x) = Dr.kvs { s with mixed := x } := by
  simp [putD, Dr.kvs, ofString_inj]
theorem ok_law_begun {k : Nat} (Z : Bl mg) {f__law_taken : Addr} {fd__law_taken : FuncData} (D__law_taken : Df K mg "_law_taken" f__law_taken fd__law_taken ["_law_s", "_law_most"]) (G__law_taken : FnM P w K mg base CX0 (k) f__law_taken fd__law_taken ["_law_s", "_law_most"] (spTaken K)) (F : Fun K "_law_begun" "_law_begun" s__law_begun f__law_begun fd__law_begun) : FnM P w K mg base CX0 (k + 1) f__law_begun fd__law_begun ["_law_script"] (spBegun K) := by
  refine fn_m F sc__law_begun (fun ds m Q E h => ?_) (fun cdv A outer s H ds m Q E E' hr h => ?_)
  · obtain ⟨a, s, rfl, _⟩ := h; rfl
  have nd := sc__law_begun.nd
  obtain ⟨c, ns, rfl, hL, hl, q⟩ := h
  refine ⟨_, (mss_cons (ms_set (i := 1) nd rfl (.inl rfl) mx_int)
    (mss_cons (ms_for PassesOwn.never rfl (mi_listS (mv 0)) (mg_name (i := 2) nd rfl (.inl rfl)) (mss_one (ms_set (i := 1) nd rfl (.inl rfl) (mx_op mo_mod (mx_op mo_plus (mx_op mo_plus (mx_op mo_times (mv 1) mx_int) (mx_op mo_times (mv 2) mx_int)) mx_int) mx_int))))
    (mss_cons (ms_set (i := 3) nd rfl (.inl rfl) (mx_disp (mps_cons mx_str (mv 0) (mps_cons mx_str mx_int (mps_cons mx_str mx_int (mps_cons mx_str mx_int (mps_cons mx_str mx_int (mps_cons mx_str mx_int (mps_cons mx_str mx_int mps_nil)))))))))
    (mss_cons (ms_dput (hu1 hr) (mv 3) mx_str (mx_lst ma_nil))
    (mss_cons (ms_dput (hu1 hr) (mv 3) mx_str (mx_op mo_times (mv 1) (mx_callTy mc_int1 Z.b_int (ma_cons (mx_cmp mo_gt (mx_callB mc_lenS Z.b_len (ma_cons (mv 0) ma_nil)) mx_int (nomark _)) ma_nil))))
    (mss_cons (ms_dput (hu1 hr) (mv 3) mx_str (mx_op mo_plus mx_int (mx_call (Em := noX) G__law_taken hr D__law_taken.m D__law_taken.k D__law_taken.b pass0M (ma_cons (mv 3) (ma_cons mx_int ma_nil)))))
    (mss_cons (ms_dput (hu1 hr) (mv 3) mx_str (mx_call (Em := noX) G__law_taken hr D__law_taken.m D__law_taken.k D__law_taken.b pass0M (ma_cons (mv 3) (ma_cons (mx_ix (mi_sub hr) (mv 3) mx_str) ma_nil))))
    (mss_cons (ms_dput (hu1 hr) (mv 3) mx_str (mx_call (Em := noX) G__law_taken hr D__law_taken.m D__law_taken.k D__law_taken.b pass0M (ma_cons (mv 3) (ma_cons mx_int ma_nil))))
    (mss_cons (ms_dput (hu1 hr) (mv 3) mx_str (mx_callTy mc_int1 Z.b_int (ma_cons (mx_cmp (mo_eqq hr) (mx_call (Em := noX) G__law_taken hr D__law_taken.m D__law_taken.k D__law_taken.b pass0M (ma_cons (mv 3) (ma_cons mx_int ma_nil))) mx_int (nomark _)) ma_nil)))
    (mss_one (ms_ret (mv 3)))))))))))), ?_⟩
  wtm_at "go"
  refine ⟨ns, hL, ?_⟩
  refine forC_ind (fun r ρ m' => m' = m ∧ ∃ (x : Int) (e : Option D), 0 ≤ x ∧ x < 2147483647 ∧ ρ = [some (.ref c), some (.int x), e, none] ∧ ∀ d ∈ r, ∃ i, d = .int i) ⟨rfl, 0, none, by decide, by decide, rfl, fun d hd => ?_⟩ ?_ ?_
  · obtain ⟨i, _, rfl⟩ := List.mem_map.mp hd; exact ⟨i, rfl⟩
  · rintro ρ m' ⟨rfl, x, e, x0, x1, rfl, -⟩
    refine ⟨hL, ?_⟩
    wtm_at "go"
    rintro a ha
    have eD : mergeD [] (List.map keyP [(.str (Str.ofString "numbers"), .ref c), (.str (Str.ofString "at"), .int 0), (.str (Str.ofString "size"), .int 1), (.str (Str.ofString "place"), .int 0), (.str (Str.ofString "turn"), .int 0), (.str (Str.ofString "talk"), .int 0), (.str (Str.ofString "rest"), .int 0)]) = List.take 7 (Dr.kvs { sc := c, nm := 0, at_ := 0, size := 1, place := 0, turn := 0, talk := 0, rest := 0, mixed := 0 }) := by
      simp [mergeD, keyP, putD, Dr.kvs, ofString_inj]
    rw [eD]
    wtm_at "go"
    intro p hp
    wtm_at "go"
    refine i_putK (mput_new hp mput_same) (by show 7 < sizeLine; decide) ?_
    rw [Dr.put_names]
    wtm_at "go"
    have ne : p ≠ a := by rintro rfl; rw [mput_same] at hp; cases hp
    have hL2 : ∀ o u o2, LsK K (mput (mput (mput m' a o) p u) a o2) c ns := fun o u o2 => by
      have h3 : Sub m' (mput (mput (mput m' a o) p u) a o2) := by
        intro b v e
        have n1 : b ≠ a := by rintro rfl; rw [ha] at e; cases e
        have n2 : b ≠ p := by
          rintro rfl
          rw [mput_ne ne] at hp; rw [hp] at e; cases e
        rw [mput_ne n1, mput_ne n2, mput_ne n1]; exact e
      exact hL.sub h3
    refine i_lenS' (hL2 _ _ _) ?_
    wtm_at "go"
    refine i_putK mput_same (by show 8 < sizeLine; decide) ?_
    rw [Dr.put_mixed, mput_mput]
    generalize hs0 : ({ sc := c, nm := p, at_ := 0, size := 1, place := 0, turn := 0, talk := 0, rest := 0, mixed := x * (if decide (2 < (ns.length : Int)) = true then 1 else 0) } : Dr) = s0
    generalize hM : mput (mput (mput m' a _) p (O.lst [])) a (.dK s0.kvs) = M
    have e0 : M a = some s0.o := by rw [← hM]; exact mput_same
    have I0 : DrI K M a s0 := by
      refine ⟨e0, ⟨ns, by subst hs0; rw [← hM]; exact hL2 _ _ _, hl⟩, by subst hs0; exact Int.le_refl 0, by subst hs0; exact Int.le_refl 0, ?_, ?_⟩
      · subst hs0; show 0 ≤ x * _; split <;> omega
      · subst hs0; show x * _ < _; split <;> omega
    have N0 : DrN M s0 [] := by
      refine ⟨?_, Nat.zero_le _⟩
      have : M p = some (.lst []) := by rw [← hM, mput_ne ne, mput_same]
      subst hs0
      exact rd_L this
    have S0 : Sub m' M := by
      intro b v e
      have n1 : b ≠ a := by rintro rfl; rw [ha] at e; cases e
      have n2 : b ≠ p := by
        rintro rfl
        rw [mput_ne ne] at hp; rw [hp] at e; cases e
      rw [← hM, mput_ne n1, mput_ne n2, mput_ne n1]; exact e
    have k0 : s0.nm ≠ a := by subst hs0; exact ne
    have e1 : ∀ s' s2 : Dr, mput (mput M a s'.o) a s2.o = mput M a s2.o := fun _ _ => mput_mput
    clear hM hs0 eD hL2
    have I0e := I0.e
    have I0r := I0.rd
    wtm_at "go"
    refine spTaken.mk I0 (by decide) (by decide) fun v1 s1 h1 g1 n1 I1 => ?_
    simp only [e1] at I1 ⊢
    have I1e := I1.e
    have I1r := I1.rd
    wtm_at "go"
    refine i_putK I1.e Dr.len ?_
    rw [Dr.p_size]
    have J1 := I1.put (s' := { s1 with size := 1 + v1 }) rfl I1.at0 I1.rest0 I1.mix0 I1.mix1
    have E1 := e1 s1 { s1 with size := 1 + v1 }
    rw [E1] at J1
    rw [show mput (mput M a s1.o) a (.dK (Dr.kvs { s1 with size := 1 + v1 })) = _ from E1]
    have J1e := J1.e
    have J1r := J1.rd
    wtm_at "go"
    refine spTaken.mk J1 (show 0 < 1 + v1 by omega) (show 1 + v1 ≤ _ by omega) fun v2 s2 h2 g2 n2 I2 => ?_
    simp only [e1] at I2 ⊢
    have I2e := I2.e
    have I2r := I2.rd
    wtm_at "go"
    refine i_putK I2.e Dr.len ?_
    rw [Dr.p_place]
    have J2 := I2.put (s' := { s2 with place := v2 }) rfl I2.at0 I2.rest0 I2.mix0 I2.mix1
    have E2 := e1 s2 { s2 with place := v2 }
    rw [E2] at J2
    rw [show mput (mput M a s2.o) a (.dK (Dr.kvs { s2 with place := v2 })) = _ from E2]
    have J2e := J2.e
    have J2r := J2.rd
    wtm_at "go"
    refine spTaken.mk J2 (by decide) (by decide) fun v3 s3 h3 g3 n3 I3 => ?_
    simp only [e1] at I3 ⊢
    have I3e := I3.e
    have I3r := I3.rd
    wtm_at "go"
    refine i_putK I3.e Dr.len ?_
    rw [Dr.p_turn]
    have J3 := I3.put (s' := { s3 with turn := v3 }) rfl I3.at0 I3.rest0 I3.mix0 I3.mix1
    have E3 := e1 s3 { s3 with turn := v3 }
    rw [E3] at J3
    rw [show mput (mput M a s3.o) a (.dK (Dr.kvs { s3 with turn := v3 })) = _ from E3]
    have J3e := J3.e
    have J3r := J3.rd
    wtm_at "go"
    refine spTaken.mk J3 (by decide) (by decide) fun v4 s4 h4 g4 n4 I4 => ?_
    simp only [e1] at I4 ⊢
    have I4e := I4.e
    have I4r := I4.rd
    wtm_at "go"
    refine i_putK I4.e Dr.len ?_
    rw [Dr.p_talk]
    have J4 := I4.put (s' := { s4 with talk := (if decide (v4 = 8) = true then 1 else 0) }) rfl I4.at0 I4.rest0 I4.mix0 I4.mix1
    have E4 := e1 s4 { s4 with talk := (if decide (v4 = 8) = true then 1 else 0) }
    rw [E4] at J4
    rw [show mput (mput M a s4.o) a (.dK (Dr.kvs { s4 with talk := (if decide (v4 = 8) = true then 1 else 0) })) = _ from E4]
    have J4e := J4.e
    have J4r := J4.rd
    wtm_at "go"
    dsimp only at g2
    obtain ⟨a1, b1, c1, d1, t1, l1⟩ := n1
    obtain ⟨a2, b2, c2, d2, t2, l2⟩ := n2
    obtain ⟨a3, b3, c3, d3, t3, l3⟩ := n3
    obtain ⟨a4, b4, c4, d4, t4, l4⟩ := n4
    dsimp only at a1 b1 c1 d1 t1 l1 a2 b2 c2 d2 t2 l2 a3 b3 c3 d3 t3 l3 a4 b4 c4 d4 t4 l4
    have nmE : s4.nm = s0.nm := by rw [b4, b3, b2, b1]
    refine RtM.mk (q a _ _ J4e ha (fun b o e => ?_) J4 ⟨?_, ?_, ?_, ?_, ?_, ?_, ?_⟩ ⟨?_, Nat.zero_le _⟩ ?_)
    · rw [mput_ne]
      · exact S0 b o e
      · rintro rfl; rw [ha] at e; cases e
    · show 1 ≤ s4.size; omega
    · show s4.size ≤ 8; omega
    · show 0 ≤ s4.place; omega
    · show s4.place < s4.size; omega
    · show 0 ≤ s4.turn; omega
    · show s4.turn < 26; omega
    · show (if decide (v4 = 8) = true then (1 : Int) else 0) = 0 ∨ (if decide (v4 = 8) = true then (1 : Int) else 0) = 1
      split
      · exact .inr rfl
      · exact .inl rfl
    · show rdM _ s4.nm = _
      rw [nmE]
      exact rdM_off k0 N0.1
    · show s4.nm ≠ a
      rw [nmE]; exact k0
  · rintro d r ρ m' L hK ⟨rfl, x, e, x0, x1, rfl, hd⟩
    obtain ⟨i, rfl⟩ := hd _ (.head _)
    refine ⟨hL, ?_⟩
    wtm_at "go"
    exact hK _ _ ⟨rfl, _, _, Int.emod_nonneg _ (by decide), Int.emod_lt_of_pos _ (by decide), rfl, fun d h => hd d (.tail _ h)⟩

/-! ### words that are drawn -/
def talkWords : List Str := ["none", "give", "both", "turned", "later", "often", "if", "num", "read", "plus", "below", "all"]
def sgnOf (i : Int) : Str := ⟨#[(97 + i).toNat]⟩
def wordOf (s : Dr) (k : Int) : Str := if s.talk = 1 ∧ k < 12 then (talkWords[k.toNat]?).getD "" else Txt.mul "q" s.place ++ sgnOf ((k + s.turn) % 26) ++ Txt.mul "q" (s.size - s.place - 1)
def spWord (K : PySem.W.Frag) : SpM := fun ds m Q _ => ∃ (a : Addr) (s : Dr) (k : Int), ds = [.ref a, .int k] ∧ rdM m a = some s.o ∧ DrB s ∧ 0 ≤ k ∧ Q (.str (wordOf s k)) m
theorem len_q {n : Int} (h : 0 ≤ n) : (Txt.mul "q" n).length = n.toNat := by
  have := PyProof.Rows.len_mul "q" n
  rw [decide_eq_false (by omega)] at this
  have e : (Str.ofString "q").length = 1 := by decide +kernel
  rw [e] at this
  simp at this
  omega
theorem abc_at : ∀ i : Nat, i < 26 → atI (Str.ofString "abcdefghijklmnopqrstuvwxyz").cps.toList (i : Int) = some (97 + i) := by
  decide +kernel
abbrev s__law_word : Stmt := topS 23
theorem sc__law_word : FnScope ["_law_s", "_law_k", "_law_words", "_law_sign"] ["_law_s", "_law_k"] (defScope s__law_word) := ⟨rfl, rfl, rfl, by decide +kernel, rfl, by decide +kernel, by decide +kernel⟩
theorem ok_law_word {k : Nat} (Z : Bl mg) (F : Fun K "_law_word" "_law_word" s__law_word f__law_word fd__law_word) : FnM P w K mg base CX0 (k + 1) f__law_word fd__law_word ["_law_s", "_law_k"] (spWord K) := by
  refine fn_m F sc__law_word (fun ds m Q E h => ?_) (fun cdv A outer s H ds m Q E E' hr h => ?_)
  · obtain ⟨a, s, n, rfl, _⟩ := h; rfl
  have nd := sc__law_word.nd
  obtain ⟨a, s, n, rfl, hR, B, h0, q⟩ := h
  refine ⟨_, (mss_cons (ms_if (mw_pt (mw_and (mt_cmp (mo_eqq hr) (mx_ix (mi_sub hr) (mv 0) mx_str) mx_int (nomark _)) (mw_and1 (mt_cmp mo_lt (mv 1) mx_int (nomark _))))) (mss_cons (ms_set (i := 2) nd rfl (.inl rfl) (mx_lst (ma_cons mx_str (ma_cons mx_str (ma_cons mx_str (ma_cons mx_str (ma_cons mx_str (ma_cons mx_str (ma_cons mx_str (ma_cons mx_str (ma_cons mx_str (ma_cons mx_str (ma_cons mx_str (ma_cons mx_str ma_nil))))))))))))))
    (mss_one (ms_ret (mx_ix (mi_sub hr) (mv 2) (mv 1))))) mss_nil)
    (mss_cons (ms_set (i := 3) nd rfl (.inl rfl) (mx_ix (mi_sub hr) mx_str (mx_op mo_mod (mx_op mo_plus (mv 1) (mx_ix (mi_sub hr) (mv 0) mx_str)) mx_int)))
    (mss_one (ms_ret (mx_op mo_plus (mx_op mo_plus (mx_op mo_times mx_str (mx_ix (mi_sub hr) (mv 0) mx_str)) (mv 3)) (mx_op mo_times mx_str (mx_op mo_sub (mx_op mo_sub (mx_ix (mi_sub hr) (mv 0) mx_str) (mx_ix (mi_sub hr) (mv 0) mx_str)) mx_int))))))), ?_⟩
  have tail : s.talk ≠ 1 ∨ ¬ n < 12 → Q (.str (Txt.mul "q" s.place ++ sgnOf ((n + s.turn) % 26) ++ Txt.mul "q" (s.size - s.place - 1))) m := fun h => by
    have e : wordOf s n = _ := if_neg (fun z => by rcases h with h | h; exact h z.1; exact h z.2)
    rw [e] at q; exact q
  have hz := B.z1
  have hp0 := B.p0
  have hp1 := B.p1
  have ht0 := B.t0
  have ht1 := B.t1
  have lq : (Str.ofString "q").length = 1 := by decide +kernel
  have mq : ∀ j : Int, 0 ≤ j → j ≤ 8 → MulOk (Str.ofString "q") j := fun j j0 j1 => by
    refine ⟨?_, fun _ h _ => ?_, fun _ _ => ?_⟩
    · simp; omega
    · rw [lq] at *
      have : j = 2 ∨ j = 3 ∨ j = 4 ∨ j = 5 ∨ j = 6 ∨ j = 7 ∨ j = 8 ∨ j ≤ 1 := by omega
      rcases this with rfl | rfl | rfl | rfl | rfl | rfl | rfl | h2 <;> first | decide | (simp at h; omega)
    · rw [lq]
      have : j.toNat < 9 := by omega
      refine decide_eq_false (Nat.not_lt.mpr (sl ?_))
      omega
  have hc : atI (Str.ofString "abcdefghijklmnopqrstuvwxyz").cps.toList ((n + s.turn) % 26) = some (97 + (n + s.turn) % 26).toNat := by
    have h1 : 0 ≤ (n + s.turn) % 26 := Int.emod_nonneg _ (by decide)
    have h2 : (n + s.turn) % 26 < 26 := Int.emod_lt_of_pos _ (by decide)
    have := abc_at ((n + s.turn) % 26).toNat (by omega)
    rw [show (((n + s.turn) % 26).toNat : Int) = (n + s.turn) % 26 by omega] at this
    rw [this]
    congr 1
    omega
  wtm_at "go"
  refine i_ite (fun c => ?_) (fun c => ?_)
  · have c1 : s.talk = 1 := of_decide_eq_true c
    wtm_at "go"
    refine i_ite (fun c' => ?_) (fun c' => ?_)
    · have c2 : n < 12 := of_decide_eq_true c'
      wtm_at "go"
      intro p hp
      have hx : atI (talkWords.map D.str) n = some (.str (wordOf s n)) := by
        have e : wordOf s n = _ := if_pos ⟨c1, c2⟩
        rw [e]
        have : n = 0 ∨ n = 1 ∨ n = 2 ∨ n = 3 ∨ n = 4 ∨ n = 5 ∨ n = 6 ∨ n = 7 ∨ n = 8 ∨ n = 9 ∨ n = 10 ∨ n = 11 := by omega
        rcases this with rfl | rfl | rfl | rfl | rfl | rfl | rfl | rfl | rfl | rfl | rfl | rfl <;> rfl
      wtm_at "go"
      refine i_subL (rd_L mput_same) hx ?_
      exact RtM.sub (Sub.refl.new hp) q
    · have c2 : ¬ n < 12 := of_decide_eq_false c'
      have q' := tail (.inr c2)
      wtm_at "go"
      refine i_subS (by rw [show (Str.ofString "abcdefghijklmnopqrstuvwxyz").length = 26 by decide +kernel]; decide) hc ?_
      wtm_at "go"
      refine i_timesS (mq _ hp0 (by omega)) ?_
      wtm_at "go"
      refine i_plusS (sl ?_) ?_
      · rw [len_q hp0]; show _ + 1 ≤ _; omega
      wtm_at "go"
      refine i_timesS (mq _ (by omega) (by omega)) ?_
      wtm_at "go"
      refine i_plusS (sl ?_) ?_
      · rw [PySem.Str.length_append, len_q hp0, len_q (by omega)]; show _ + 1 + _ ≤ _; omega
      exact RtM.mk q'
  · have c2 : ¬ s.talk = 1 := of_decide_eq_false c
    have q' := tail (.inl c2)
    wtm_at "go"
    refine i_subS (by rw [show (Str.ofString "abcdefghijklmnopqrstuvwxyz").length = 26 by decide +kernel]; decide) hc ?_
    wtm_at "go"
    refine i_timesS (mq _ hp0 (by omega)) ?_
    wtm_at "go"
    refine i_plusS (sl ?_) ?_
    · rw [len_q hp0]; show _ + 1 ≤ _; omega
    wtm_at "go"
    refine i_timesS (mq _ (by omega) (by omega)) ?_
    wtm_at "go"
    refine i_plusS (sl ?_) ?_
    · rw [PySem.Str.length_append, len_q hp0, len_q (by omega)]; show _ + 1 + _ ≤ _; omega
    exact RtM.mk q'

/-! ### rows that are drawn -/
def Row.put (r : Row) (x : Str) (v : Int) : Row := if (r.any fun p => decide (p.1 = x)) = true then r.map fun p => if p.1 = x then (p.1, v) else p else r ++ [(x, v)]
theorem Row.put_kvs {r : Row} {x : Str} {v : Int} : putD (r.map fun p => ((.inr p.1 : Key), D.int p.2)) (.inr x) (.int v) = (r.put x v).map fun p => ((.inr p.1 : Key), D.int p.2) := by
  unfold putD Row.put
  have e : ((r.map fun p => ((.inr p.1 : Key), D.int p.2)).any fun kv => decide (kv.1 = .inr x)) = r.any fun p => decide (p.1 = x) := by
    rw [List.any_map]; congr 1; funext p; simp
  rw [e]
  split
  · rw [List.map_map, List.map_map]
    apply List.map_congr_left
    intro p _
    by_cases c : p.1 = x <;> simp [c]
  · rw [List.map_append]; rfl
theorem Row.put_len {r : Row} {x : Str} {v : Int} : (r.put x v).length ≤ r.length + 1 := by
  unfold Row.put; split <;> simp
theorem lookup_cons' {α β : Type} [BEq α] {k x : α} {v : β} {r : List (α × β)} : List.lookup x ((k, v) :: r) = if x == k then some v else List.lookup x r := by
  rw [List.lookup_cons]
  split <;> rename_i h <;> simp [h]
theorem Row.put_same {r : Row} {x : Str} {v : Int} : (r.put x v).lookup x = some v := by
  unfold Row.put
  split
  · rename_i h
    induction r with
    | nil => simp at h
    | cons p r ih =>
      obtain ⟨y, j⟩ := p
      by_cases c : y = x
      · subst c; simp [lookup_cons']
      · have c' : ¬ x = y := fun z => c z.symm
        have h' : (r.any fun p => decide (p.1 = x)) = true := by simpa [c] using h
        simpa [c, c', lookup_cons'] using ih h'
  · rename_i h
    induction r with
    | nil => simp [lookup_cons']
    | cons p r ih =>
      obtain ⟨y, j⟩ := p
      by_cases c : y = x
      · exact absurd (by simp [c]) h
      · have c' : ¬ x = y := fun z => c z.symm
        have h' : ¬ (r.any fun p => decide (p.1 = x)) = true := by simpa [c] using h
        simpa [c', lookup_cons'] using ih h'
theorem Row.put_ne {r : Row} {x y : Str} {v : Int} (n : y ≠ x) : (r.put x v).lookup y = r.lookup y := by
  unfold Row.put
  split
  · rename_i h; clear h
    induction r with
    | nil => rfl
    | cons p r ih =>
      obtain ⟨z, j⟩ := p
      by_cases c : z = x
      · subst c; simp [n, lookup_cons', ih]
      · simp [c, lookup_cons', ih]
  · rename_i h; clear h
    induction r with
    | nil => simp [n, lookup_cons']
    | cons p r ih =>
      obtain ⟨z, j⟩ := p
      simp [lookup_cons', ih]
theorem Row.put_keys {r : Row} {x : Str} {v : Int} : (r.put x v).map (·.1) = if x ∈ r.map (·.1) then r.map (·.1) else r.map (·.1) ++ [x] := by
  unfold Row.put
  have e : (r.any fun p => decide (p.1 = x)) = true ↔ x ∈ r.map (·.1) := by
    simp only [List.any_eq_true, decide_eq_true_eq, List.mem_map]
  by_cases c : x ∈ r.map (·.1)
  · rw [if_pos (e.mpr c), if_pos c, List.map_map]
    apply List.map_congr_left
    intro p _
    show (if p.1 = x then (p.1, v) else p).1 = p.1
    split <;> rfl
  · rw [if_neg (fun z => c (e.mp z)), if_neg c, List.map_append]; rfl
/-- a row of just these names, its numbers small -/
structure RowI (r : Row) (nms : List Str) : Prop where
  len : r.length ≤ nms.length
  nd : (r.map (·.1)).Nodup
  lk : ∀ x ∈ nms, ∃ i, r.lookup x = some i ∧ i.natAbs < 10 ^ 12
  sb : ∀ p ∈ r, p.1 ∈ nms
theorem RowI.put {r : Row} {nms : List Str} {x : Str} {v : Int} (h : RowI r nms) (hv : v.natAbs < 10 ^ 12) : RowI (r.put x v) (nms ++ [x]) := by
  refine ⟨?_, ?_, fun y hy => ?_, fun p hp => ?_⟩
  · have := Row.put_len (r := r) (x := x) (v := v)
    have := h.len
    rw [List.length_append, List.length_singleton]; omega
  · rw [Row.put_keys]
    split
    · exact h.nd
    · rename_i c
      rw [List.nodup_append]
      refine ⟨h.nd, by simp, fun a ha b hb => ?_⟩
      simp only [List.mem_singleton] at hb
      subst hb; rintro rfl; exact c ha
  · by_cases c : y = x
    · subst c; exact ⟨v, Row.put_same, hv⟩
    · rw [Row.put_ne c]
      rw [List.mem_append, List.mem_singleton] at hy
      rcases hy with hy | hy
      · exact h.lk y hy
      · exact absurd hy c
  · have : p.1 ∈ (r.put x v).map (·.1) := List.mem_map_of_mem hp
    rw [Row.put_keys] at this
    rw [List.mem_append, List.mem_singleton]
    split at this
    · obtain ⟨q, hq, e⟩ := List.mem_map.mp this
      exact .inl (e ▸ h.sb q hq)
    · rw [List.mem_append, List.mem_singleton] at this
      rcases this with this | this
      · obtain ⟨q, hq, e⟩ := List.mem_map.mp this
        exact .inl (e ▸ h.sb q hq)
      · exact .inr this
/-- all but a stays -/
def Kp (a : Addr) (m m' : Mem) : Prop := ∀ b o, b ≠ a → m b = some o → m' b = some o
theorem Kp.refl {a : Addr} {m : Mem} : Kp a m m := fun _ _ _ h => h
theorem Kp.trans {a : Addr} {m m1 m2 : Mem} (h : Kp a m m1) (h2 : Kp a m1 m2) : Kp a m m2 := fun b o n e => h2 b o n (h b o n e)
theorem Kp.put {a : Addr} {m : Mem} {o : O} : Kp a m (mput m a o) := fun b u n e => by rw [mput_ne n]; exact e
theorem Kp.new {a p : Addr} {m m1 : Mem} {o : O} (h : Kp a m m1) (hp : m1 p = none) : Kp a m (mput m1 p o) := fun b u n e => mput_new hp (h b u n e)
/-- .. and what was not there may be changed -/
theorem Kp.own {a p : Addr} {m m1 : Mem} {o : O} (h : Kp a m m1) (hp : m p = none) : Kp a m (mput m1 p o) := fun b u n e => by
  rw [mput_ne]
  · exact h b u n e
  · rintro rfl; rw [hp] at e; cases e
theorem Kp.rd {a b : Addr} {m m' : Mem} {o : O} (h : Kp a m m') (n : b ≠ a) (e : rdM m b = some o) : rdM m' b = some o := by
  unfold rdM at e ⊢
  cases q : m b with
  | none => rw [q] at e; cases e
  | some u => rw [q] at e; rw [h _ _ n q]; exact e
theorem DrN.ne {K : PySem.W.Frag} {m : Mem} {a : Addr} {s : Dr} {nms : List Str} (h : DrN m s nms) (I : DrI K m a s) : s.nm ≠ a := by
  intro e
  have h1 := h.1
  rw [e, I.rd] at h1; cases h1
theorem DrN.kp {m m' : Mem} {a : Addr} {s s' : Dr} {nms : List Str} (h : DrN m s nms) (k : Kp a m m') (n : s.nm ≠ a) (e : s.nx s') : DrN m' s' nms := ⟨by rw [e.2.1]; exact k.rd n h.1, h.2⟩
theorem DrI.own {K : PySem.W.Frag} {m : Mem} {a p : Addr} {s : Dr} {o u : O} (h : DrI K m a s) (hp : m p = some o) (n : a ≠ p) (w : ∀ ds, rdM m p ≠ some (.lst ds)) : DrI K (mput m p u) a s := by
  obtain ⟨ns, l, z⟩ := h.sc
  exact ⟨by rw [mput_ne n]; exact h.e, ⟨ns, l.putD hp w, z⟩, h.at0, h.rest0, h.mix0, h.mix1⟩
theorem DrI.kp {K : PySem.W.Frag} {m m' : Mem} {a : Addr} {s s' : Dr} (h : DrI K m a s) (k : Kp a m m') (n : s.nx s') (e : m' a = some s'.o) (h1 : 0 ≤ s'.at_) (h2 : 0 ≤ s'.rest) (h3 : 0 ≤ s'.mixed) (h4 : s'.mixed < 2147483647) : DrI K m' a s' := by
  obtain ⟨ns, l, z⟩ := h.sc
  refine ⟨e, ⟨ns, ?_, z⟩, h1, h2, h3, h4⟩
  rw [n.1]
  rcases l with l | l
  · refine .inl (k.rd ?_ l)
    intro q; rw [q, h.rd] at l; cases l
  · exact .inr l
theorem DrI.kp' {K : PySem.W.Frag} {m m1 m' : Mem} {a : Addr} {s s' : Dr} (h : DrI K m a s) (h' : DrI K m1 a s') (k : Kp a m m') (n : s.nx s') (e : m' a = some s'.o) : DrI K m' a s' := h.kp k n e h'.at0 h'.rest0 h'.mix0 h'.mix1
/-- what a row is in the memory -/
structure RowsAt (m : Mem) (nms : List Str) (rs : List (Addr × Row)) : Prop where
  at_ : ∀ r ∈ rs, m r.1 = some r.2.o ∧ RowI r.2 nms


/-! ### two things that are alike -/
mutual
inductive Al (m : Mem) : Nat → D → D → Prop
  | non {n : Nat} : Al m n .non .non
  | bl {n : Nat} {b : Bool} : Al m n (.bl b) (.bl b)
  | int {n : Nat} {i : Int} : Al m n (.int i) (.int i)
  | str {n : Nat} {x : Str} : Al m n (.str x) (.str x)
  | tup {n : Nat} {xs ys : List D} : xs.length ≤ 1000000 → AlA m n xs ys → Al m (n + 1) (.tup xs) (.tup ys)
  | lst {n : Nat} {a b : Addr} {xs ys : List D} : xs.length ≤ 1000000 → rdM m a = some (.lst xs) → rdM m b = some (.lst ys) → AlA m n xs ys → Al m (n + 1) (.ref a) (.ref b)
inductive AlA (m : Mem) : Nat → List D → List D → Prop
  | nil {n : Nat} : AlA m n [] []
  | cons {n : Nat} {x y : D} {xs ys : List D} : Al m n x y → AlA m n xs ys → AlA m n (x :: xs) (y :: ys)
end
theorem AlA.len {m : Mem} {n : Nat} : ∀ {xs ys : List D}, AlA m n xs ys → xs.length = ys.length
  | _, _, .nil => rfl
  | _, _, .cons _ t => congrArg (· + 1) t.len
theorem AlA.at_ {m : Mem} {n : Nat} : ∀ {xs ys : List D} {j : Nat}, AlA m n xs ys → j < xs.length → ∃ x y, atI xs (j : Int) = some x ∧ atI ys (j : Int) = some y ∧ Al m n x y := by
  intro xs ys j h hj
  have h2 : j < ys.length := by rw [← h.len]; exact hj
  have go : ∀ (j : Nat) (xs ys : List D), AlA m n xs ys → ∀ (h1 : j < xs.length) (h2 : j < ys.length), Al m n xs[j] ys[j] := by
    intro j
    induction j with
    | zero => intro xs ys h h1 h2; cases h with
      | nil => cases h1
      | cons a t => exact a
    | succ j ih => intro xs ys h h1 h2; cases h with
      | nil => cases h1
      | cons a t => exact ih _ _ t _ _
  exact ⟨xs[j], ys[j], atI_nat (by simp [hj]), atI_nat (by simp [h2]), go j xs ys h hj h2⟩
theorem rangeD_len {i : Int} {n : Nat} : (rangeD i n).length = n := by unfold rangeD; simp
theorem rangeD_mem {i : Int} {n : Nat} {d : D} (h : d ∈ rangeD i n) : ∃ j : Nat, j < n ∧ d = .int (i + j) := by
  unfold rangeD at h
  obtain ⟨j, hj, rfl⟩ := List.mem_map.mp h
  exact ⟨j, List.mem_range.mp hj, rfl⟩
def spAl (n : Nat) : SpM := fun ds m Q _ => ∃ x y, ds = [x, y] ∧ n ≤ 60 ∧ (∃ k, k < n ∧ Al m k x y) ∧ Q (.bl true) m
abbrev s__law_alike : Stmt := topS 33
theorem sc__law_alike : FnScope ["_law_found", "_law_due", "_law_name", "_law_k"] ["_law_found", "_law_due"] (defScope s__law_alike) := ⟨rfl, rfl, rfl, by decide +kernel, rfl, by decide +kernel, by decide +kernel⟩
theorem ok_law_alike {k n : Nat} (Z : Bl mg) {f__law_alike : Addr} {fd__law_alike : FuncData} (D__law_alike : Df K mg "_law_alike" f__law_alike fd__law_alike ["_law_found", "_law_due"]) (G__law_alike : FnM P w K mg base CX0 (k) f__law_alike fd__law_alike ["_law_found", "_law_due"] (spAl n)) (F : Fun K "_law_alike" "_law_alike" s__law_alike f__law_alike fd__law_alike) : FnM P w K mg base CX0 (k + 1) f__law_alike fd__law_alike ["_law_found", "_law_due"] (spAl (n + 1)) := by
  refine fn_m F sc__law_alike (fun ds m Q E h => ?_) (fun cdv A outer s H ds m Q E E' hr h => ?_)
  · obtain ⟨x, y, rfl, _⟩ := h; rfl
  have nd := sc__law_alike.nd
  obtain ⟨x, y, rfl, hn, ⟨d, hd, h⟩, q⟩ := h
  refine ⟨_, (mss_cons (ms_if (mt_cmp mo_isN (mv 1) mx_non (nomark _)) (mss_one (ms_ret (mx_cmp mo_isN (mv 0) mx_non (nomark _)))) mss_nil)
    (mss_cons (ms_if (mt_val (mx_callB mc_isinstance2 Z.b_isinstance (ma_cons (mv 1) (ma_cons (mx_ty (T := "bool") Z.b_bool) ma_nil)))) (mss_one (ms_ret (mx_and (mx_callB mc_isinstance2 Z.b_isinstance (ma_cons (mv 0) (ma_cons (mx_ty (T := "bool") Z.b_bool) ma_nil))) (mx_one (mx_cmp (mo_eqq hr) (mv 0) (mv 1) (nomark _)))))) mss_nil)
    (mss_cons (ms_if (mt_val (mx_callB mc_isinstance2 Z.b_isinstance (ma_cons (mv 1) (ma_cons (mx_ty (T := "int") Z.b_int) ma_nil)))) (mss_one (ms_ret (mx_and (mx_callB mc_isinstance2 Z.b_isinstance (ma_cons (mv 0) (ma_cons (mx_ty (T := "int") Z.b_int) ma_nil))) (mx_and (mx_not (mx_callB mc_isinstance2 Z.b_isinstance (ma_cons (mv 0) (ma_cons (mx_ty (T := "bool") Z.b_bool) ma_nil)))) (mx_one (mx_cmp (mo_eqq hr) (mv 0) (mv 1) (nomark _))))))) mss_nil)
    (mss_cons (ms_if (mt_val (mx_callB mc_isinstance2 Z.b_isinstance (ma_cons (mv 1) (ma_cons (mx_ty (T := "str") Z.b_str) ma_nil)))) (mss_one (ms_ret (mx_and (mx_callB mc_isinstance2 Z.b_isinstance (ma_cons (mv 0) (ma_cons (mx_ty (T := "str") Z.b_str) ma_nil))) (mx_one (mx_cmp (mo_eqq hr) (mv 0) (mv 1) (nomark _)))))) mss_nil)
    (mss_cons (ms_if (mt_val (mx_callB mc_isinstance2 Z.b_isinstance (ma_cons (mv 1) (ma_cons (mx_ty (T := "dict") Z.b_dict) ma_nil)))) (mss_cons (ms_if (mw_pt (mw_or (mt_not (mt_val (mx_callB mc_isinstance2 Z.b_isinstance (ma_cons (mv 0) (ma_cons (mx_ty (T := "dict") Z.b_dict) ma_nil))))) (mw_or1 (mt_cmp (mo_neq hr) (mx_callB mc_len1 Z.b_len (ma_cons (mv 0) ma_nil)) (mx_callB mc_len1 Z.b_len (ma_cons (mv 1) ma_nil)) (nomark _))))) (mss_one (ms_ret mx_bl)) mss_nil)
    (mss_one ms_never)) mss_nil)
    (mss_cons (ms_if (mw_pt (mw_or (mt_cmp (mo_neq hr) (mx_callB mc_isinstance2 Z.b_isinstance (ma_cons (mv 1) (ma_cons (mx_ty (T := "tuple") Z.b_tuple) ma_nil))) (mx_callB mc_isinstance2 Z.b_isinstance (ma_cons (mv 0) (ma_cons (mx_ty (T := "tuple") Z.b_tuple) ma_nil))) (nomark _)) (mw_or1 (mt_cmp (mo_neq hr) (mx_callB mc_isinstance2 Z.b_isinstance (ma_cons (mv 1) (ma_cons (mx_ty (T := "list") Z.b_list) ma_nil))) (mx_callB mc_isinstance2 Z.b_isinstance (ma_cons (mv 0) (ma_cons (mx_ty (T := "list") Z.b_list) ma_nil))) (nomark _))))) (mss_one (ms_ret mx_bl)) mss_nil)
    (mss_cons (ms_if (mt_cmp (mo_neq hr) (mx_callB mc_len1 Z.b_len (ma_cons (mv 0) ma_nil)) (mx_callB mc_len1 Z.b_len (ma_cons (mv 1) ma_nil)) (nomark _)) (mss_one (ms_ret mx_bl)) mss_nil)
    (mss_one (ms_ret (mx_callB mc_all1 Z.b_all (ma_cons (mx_lc (own := [("_law_k", 3)]) rfl nd (mi_range1 Z.b_range (ma_cons (mx_callB mc_len1 Z.b_len (ma_cons (mv 1) ma_nil)) ma_nil)) (blkOk_by (by show blkC ["_law_found", "_law_due", "_law_name", "_law_k"] (defScope s__law_alike) _ _ = true; decide +kernel)) (fun _ _ _ _ _ => (pg_name (i := 3) nd rfl (Or.inl rfl))) (gok_name (i := 3) (by decide)) (fun _ _ _ _ _ => mts_nil) (fun _ _ _ _ _ => (mx_call (Em := noX) G__law_alike hr D__law_alike.m D__law_alike.k D__law_alike.b pass0M (ma_cons (mx_ix (mi_sub hr) (mv 0) (mv 3)) (ma_cons (mx_ix (mi_sub hr) (mv 1) (mv 3)) ma_nil))))) ma_nil))))))))))), ?_⟩
  cases h with
  | non => wtm_at "go"
  | bl =>
    wtm_at "go"
    rw [decide_eq_true rfl]
    exact RtM.mk q
  | int =>
    wtm_at "go"
    rw [decide_eq_true rfl]
    exact RtM.mk q
  | str =>
    wtm_at "go"
    rw [decide_eq_true rfl]
    exact RtM.mk q
  | tup h5 ha =>
    have hl := ha.len
    wtm_at "go"
    refine i_iteF ?_ ?_
    · rw [hl]; simp
    wtm_at "go"
    refine ⟨by omega, by omega, ?_⟩
    refine lcC_pure (fun _ => .bl true) (by rw [rangeD_len]; exact Nat.le_of_lt (Nat.lt_of_le_of_lt (show _ ≤ 1000000 by omega) (by decide))) trivial ?_ ?_
    · intro d2 hd2 R hR
      obtain ⟨j, hj, rfl⟩ := rangeD_mem hd2
      obtain ⟨x, y, e1, e2, a1⟩ := ha.at_ (j := j) (by omega)
      rw [Int.zero_add]
      wtm_at "go"
      refine ⟨rfl, ?_⟩
      wtm_at "go"
      refine i_subT e1 ?_
      wtm_at "go"
      refine i_subT e2 ?_
      wtm_at "go"
      exact ⟨_, _, rfl, by omega, ⟨_, by omega, a1⟩, hR⟩
    · intro p hp
      wtm_at "go"
      refine ⟨(rangeD 0 _).map fun _ => true, by rw [List.map_map]; exact rd_L mput_same, ?_⟩
      rw [show (∀ l : List D, (l.map fun _ => true).all id = true) from fun l => by simp]
      exact RtM.sub (Sub.refl.new hp) q
  | lst h5 hx hy ha =>
    have hl := ha.len
    wtm_at "go"
    refine i_iteF ?_ ?_
    · rw [hl]; simp
    wtm_at "go"
    refine ⟨by omega, by omega, ?_⟩
    refine lcC_pure (fun _ => .bl true) (by rw [rangeD_len]; exact Nat.le_of_lt (Nat.lt_of_le_of_lt (show _ ≤ 1000000 by omega) (by decide))) trivial ?_ ?_
    · intro d2 hd2 R hR
      obtain ⟨j, hj, rfl⟩ := rangeD_mem hd2
      obtain ⟨x, y, e1, e2, a1⟩ := ha.at_ (j := j) (by omega)
      rw [Int.zero_add]
      wtm_at "go"
      refine ⟨rfl, ?_⟩
      wtm_at "go"
      refine i_subL hx e1 ?_
      wtm_at "go"
      refine i_subL hy e2 ?_
      wtm_at "go"
      exact ⟨_, _, rfl, by omega, ⟨_, by omega, a1⟩, hR⟩
    · intro p hp
      wtm_at "go"
      refine ⟨(rangeD 0 _).map fun _ => true, by rw [List.map_map]; exact rd_L mput_same, ?_⟩
      rw [show (∀ l : List D, (l.map fun _ => true).all id = true) from fun l => by simp]
      exact RtM.sub (Sub.refl.new hp) q

theorem Told.of_ok {nms : List Str} {r : Row} (h : RowI r nms) : ∀ {t : Told}, t.of nms → t.ok r
  | .num i, h1 => Nat.lt_trans h1 (by decide)
  | .read x, h1 => by
    obtain ⟨i, e, z⟩ := h.lk x h1
    exact ⟨i, e, Nat.lt_trans z (by decide)⟩
  | .bin _ a b, h1 => ⟨Told.of_ok h h1.1, Told.of_ok h h1.2⟩
theorem row_mem {r : Row} (nd : (r.map (·.1)).Nodup) {p : Str × Int} (hp : p ∈ r) : r.lookup p.1 = some p.2 := by
  induction r with
  | nil => cases hp
  | cons q r ih =>
    obtain ⟨y, j⟩ := q
    rw [List.map_cons, List.nodup_cons] at nd
    rw [lookup_cons']
    cases hp with
    | head => simp
    | tail _ hp =>
      have : ¬ (p.1 == y) = true := by
        intro z
        have z : p.1 = y := by simpa using z
        exact nd.1 (List.mem_map.mpr ⟨p, hp, z⟩)
      rw [if_neg this]; exact ih nd.2 hp
theorem row_sameD {m : Mem} {r : Row} {nms : List Str} {a b : Addr} (h : RowI r nms) (e1 : m a = some r.o) (e2 : m b = some r.o) : SameD m a b := by
  refine ⟨_, _, e1, e2, rfl, fun p hp => ?_⟩
  obtain ⟨q, hq, rfl⟩ := List.mem_map.mp hp
  exact ⟨row_val (row_mem h.nd hq), .inl ⟨_, rfl⟩⟩

theorem fin_law_told {c : Nat} (Z : Bl mg) {f__law_taken : Addr} {fd__law_taken : FuncData} (D__law_taken : Df K mg "_law_taken" f__law_taken fd__law_taken ["_law_s", "_law_most"]) (G__law_taken : FnM P w K mg base CX0 (c) f__law_taken fd__law_taken ["_law_s", "_law_most"] (spTaken K)) {f__law_number : Addr} {fd__law_number : FuncData} (D__law_number : Df K mg "_law_number" f__law_number fd__law_number ["_law_s"]) (G__law_number : FnM P w K mg base CX0 (c) f__law_number fd__law_number ["_law_s"] (spNumber K)) {f__law_told : Addr} {fd__law_told : FuncData} (D__law_told : Df K mg "_law_told" f__law_told fd__law_told ["_law_s", "_law_deep"]) (F : Fun K "_law_told" "_law_told" s__law_told f__law_told fd__law_told) : ∀ n, FnM P w K mg base CX0 (c + n) f__law_told fd__law_told ["_law_s", "_law_deep"] (spTold K n)
  | 0 => fn_none fun ds m Q E ⟨a, s, nms, dp, _, h, _⟩ => by omega
  | n + 1 => ok_law_told Z D__law_taken (G__law_taken.mono (Nat.le_add_right c n)) D__law_number (G__law_number.mono (Nat.le_add_right c n)) D__law_told (fin_law_told Z D__law_taken G__law_taken D__law_number G__law_number D__law_told F n) F
theorem fin_law_alike {c : Nat} (Z : Bl mg) {f__law_alike : Addr} {fd__law_alike : FuncData} (D__law_alike : Df K mg "_law_alike" f__law_alike fd__law_alike ["_law_found", "_law_due"]) (F : Fun K "_law_alike" "_law_alike" s__law_alike f__law_alike fd__law_alike) : ∀ n, FnM P w K mg base CX0 (c + n) f__law_alike fd__law_alike ["_law_found", "_law_due"] (spAl n)
  | 0 => fn_none fun ds m Q E ⟨x, y, _, _, ⟨k, h, _⟩, _⟩ => by omega
  | n + 1 => ok_law_alike Z D__law_alike (fin_law_alike Z D__law_alike F n) F

def spJoined : SpM := fun ds m Q _ => match ds with
  | [.str w, .int a, .int b] => ∃ j : Jn, w = j.w ∧ (j = .times → CMulW a b) ∧ Q (.int (j.ap a b)) m
  | _ => False
abbrev s_joined : Stmt := topS 2
theorem sc_joined : FnScope ["word", "one", "other"] ["word", "one", "other"] (defScope s_joined) := ⟨rfl, rfl, rfl, by decide +kernel, rfl, by decide +kernel, by decide +kernel⟩
theorem ok_joined (Z : Bl mg) {k : Nat} {f_joined : Addr} {fd_joined : FuncData} (F : Fun K "joined" "joined" s_joined f_joined fd_joined) : FnM P w K mg base CX0 (k + 1) f_joined fd_joined ["word", "one", "other"] (spJoined) := by
  refine fn_m F sc_joined (fun ds m Q E h => ?_) (fun cdv A outer s H ds m Q E E' hr h => ?_)
  · unfold spJoined at h; split at h; rfl; exact h.elim
  have nd := sc_joined.nd
  unfold spJoined at h
  split at h
  case h_2 => exact h.elim
  obtain ⟨j, rfl, hm, q⟩ := h
  refine ⟨_, (mss_cons (ms_if (mt_cmp (mo_eqq hr) (mv 0) mx_str (nomark _)) (mss_one (ms_ret (mx_op mo_plus (mv 1) (mv 2)))) mss_nil)
    (mss_cons (ms_if (mt_cmp (mo_eqq hr) (mv 0) mx_str (nomark _)) (mss_one (ms_ret (mx_op mo_sub (mv 1) (mv 2)))) mss_nil)
    (mss_cons (ms_if (mt_cmp (mo_eqq hr) (mv 0) mx_str (nomark _)) (mss_one (ms_ret (mx_op mo_times (mv 1) (mv 2)))) mss_nil)
    (mss_cons (ms_if (mt_cmp (mo_eqq hr) (mv 0) mx_str (nomark _)) (mss_one (ms_ret (mx_callB mc_max2 Z.b_max (ma_cons (mv 1) (ma_cons (mv 2) ma_nil))))) mss_nil)
    (mss_one (ms_ret (mx_callB mc_min2 Z.b_min (ma_cons (mv 1) (ma_cons (mv 2) ma_nil))))))))), ?_⟩
  cases j
  · simp only [Jn.w]; wtm_at "go"
  · simp only [Jn.w]; wtm_at "go"
  · simp only [Jn.w]; wtm_at "go"
    refine i_timesI (.inr (hm rfl)) ?_
    wtm_at "go"
  · simp only [Jn.w]; wtm_at "go"
  · simp only [Jn.w]; wtm_at "go"
def spRows (K : PySem.W.Frag) : SpM := fun ds m Q _ => ∃ (a : Addr) (s : Dr) (nms : List Str) (n : Nat), ds = [.ref a, .int n] ∧ n ≤ 130 ∧ DrI K m a s ∧ DrN m s nms ∧
  ∀ p s' m' (rs : List (Addr × Row)), rs.length = n → m p = none → m' p = some (.lst (rs.map fun r => .ref r.1)) → RowsAt m' nms rs → (∀ r ∈ rs, m r.1 = none) → Kp a m m' → DrI K m' a s' → s.nx s' → Q (.ref p) m'
abbrev s__law_value : Stmt := topS 32
theorem sc__law_value : FnScope ["_law_told_here", "_law_row", "_law_word_here", "_law_one", "_law_other"] ["_law_told_here", "_law_row"] (defScope s__law_value) := ⟨rfl, rfl, rfl, by decide +kernel, rfl, by decide +kernel, by decide +kernel⟩
theorem ok_law_value {k n : Nat} (Z : Bl mg) {f__law_value : Addr} {fd__law_value : FuncData} (D__law_value : Df K mg "_law_value" f__law_value fd__law_value ["_law_told_here", "_law_row"]) (G__law_value : FnM P w K mg base CX0 (k) f__law_value fd__law_value ["_law_told_here", "_law_row"] (spNum n)) (F : Fun K "_law_value" "_law_value" s__law_value f__law_value fd__law_value) : FnM P w K mg base CX0 (k + 1) f__law_value fd__law_value ["_law_told_here", "_law_row"] (spNum (n + 1)) := by
  refine fn_m F sc__law_value (fun ds m Q E h => ?_) (fun cdv A outer s H ds m Q E E' hr h => ?_)
  · obtain ⟨t, a, r, rfl, _⟩ := h; rfl
  have nd := sc__law_value.nd
  obtain ⟨t, a, r, rfl, hd, hn, hm, ho, q⟩ := h
  refine ⟨_, (mss_cons (ms_set (i := 2) nd rfl (.inl rfl) (mx_ix (mi_sub hr) (mv 0) mx_int))
    (mss_cons (ms_if (mt_cmp (mo_eqq hr) (mv 2) mx_str (nomark _)) (mss_one (ms_ret (mx_ix (mi_sub hr) (mv 0) mx_int))) mss_nil)
    (mss_cons (ms_if (mt_cmp (mo_eqq hr) (mv 2) mx_str (nomark _)) (mss_one (ms_ret (mx_ix (mi_sub hr) (mv 1) (mx_ix (mi_sub hr) (mv 0) mx_int)))) mss_nil)
    (mss_cons (ms_set (i := 3) nd rfl (.inl rfl) (mx_call (Em := noX) G__law_value hr D__law_value.m D__law_value.k D__law_value.b pass0M (ma_cons (mx_ix (mi_sub hr) (mv 0) mx_int) (ma_cons (mv 1) ma_nil))))
    (mss_cons (ms_set (i := 4) nd rfl (.inl rfl) (mx_call (Em := noX) G__law_value hr D__law_value.m D__law_value.k D__law_value.b pass0M (ma_cons (mx_ix (mi_sub hr) (mv 0) mx_int) (ma_cons (mv 1) ma_nil))))
    (mss_cons (ms_if (mt_cmp (mo_eqq hr) (mv 2) mx_str (nomark _)) (mss_one (ms_ret (mx_op mo_plus (mv 3) (mv 4)))) mss_nil)
    (mss_cons (ms_if (mt_cmp (mo_eqq hr) (mv 2) mx_str (nomark _)) (mss_one (ms_ret (mx_op mo_sub (mv 3) (mv 4)))) mss_nil)
    (mss_cons (ms_if (mt_cmp (mo_eqq hr) (mv 2) mx_str (nomark _)) (mss_one (ms_ret (mx_op mo_times (mv 3) (mv 4)))) mss_nil)
    (mss_one (ms_ret (mx_ix (mi_sub hr) (mx_lst (ma_cons (mx_callB mc_min2 Z.b_min (ma_cons (mv 3) (ma_cons (mv 4) ma_nil))) (ma_cons (mx_callB mc_max2 Z.b_max (ma_cons (mv 3) (ma_cons (mv 4) ma_nil))) ma_nil))) (mx_callTy mc_int1 Z.b_int (ma_cons (mx_cmp (mo_eqq hr) (mv 2) mx_str (nomark _)) ma_nil))))))))))))), ?_⟩
  cases t with
  | num i => simp only [Told.d]; wtm_at "go"
  | read x =>
    obtain ⟨i, e, _⟩ := ho
    have q' : Q (.int i) m := by
      have z : Told.val r (.read x) = i := by show Row.at r x = i; unfold Row.at; rw [e]; rfl
      rw [z] at q; exact q
    simp only [Told.d]; wtm_at "go"
    refine i_subK hm (row_val e) ?_
    wtm_at "go"
  | bin j x y =>
    have h1 : x.dp < n := by have := Nat.le_max_left x.dp y.dp; simp only [Told.dp] at hd; omega
    have h2 : y.dp < n := by have := Nat.le_max_right x.dp y.dp; simp only [Told.dp] at hd; omega
    simp only [Told.d]
    have vw := Told.wide ho.1 ho.2 (by omega) (by omega)
    cases j <;> (
      simp only [Jn.w]; wtm_at "go"
      refine ⟨x, a, r, rfl, h1, by omega, hm, ho.1, ?_⟩
      wtm_at "go"
      refine ⟨y, a, r, rfl, h2, by omega, hm, ho.2, ?_⟩
      wtm_at "go"
      first
      | done
      | (refine i_timesI (.inr vw) ?_
         wtm_at "go"
         done)
      | (intro p hp
         wtm_at "go"
         refine i_subL (rd_L mput_same) rfl ?_
         exact RtM.sub (Sub.refl.new hp) q)
      | skip)
theorem fin_law_value {c : Nat} (Z : Bl mg) {f__law_value : Addr} {fd__law_value : FuncData} (D__law_value : Df K mg "_law_value" f__law_value fd__law_value ["_law_told_here", "_law_row"]) (F : Fun K "_law_value" "_law_value" s__law_value f__law_value fd__law_value) : ∀ n, FnM P w K mg base CX0 (c + n) f__law_value fd__law_value ["_law_told_here", "_law_row"] (spNum n)
  | 0 => fn_none fun ds m Q E ⟨t, a, r, _, h, _⟩ => by omega
  | n + 1 => ok_law_value Z D__law_value (fin_law_value Z D__law_value F n) F

/-! ### conditions -/
inductive Asked where
  | lt (a b : Told) | no (a : Asked) | all (a b : Asked) | any (a b : Asked)
def Asked.d : Asked → D
  | .lt a b => .tup [.str "below", a.d, b.d]
  | .no a => .tup [.str "not", a.d]
  | .all a b => .tup [.str "all", a.d, b.d]
  | .any a b => .tup [.str "any", a.d, b.d]
def Asked.dp : Asked → Nat
  | .lt _ _ => 0
  | .no a => a.dp + 1
  | .all a b => max a.dp b.dp + 1
  | .any a b => max a.dp b.dp + 1
/-- how deep its numbers are -/
def Asked.td : Asked → Nat
  | .lt a b => max a.dp b.dp
  | .no a => a.td
  | .all a b => max a.td b.td
  | .any a b => max a.td b.td
def Asked.val (r : Row) : Asked → Bool
  | .lt a b => decide (a.val r < b.val r)
  | .no a => !a.val r
  | .all a b => if a.val r = true then b.val r else false
  | .any a b => if a.val r = true then true else b.val r
def Asked.ok (r : Row) : Asked → Prop
  | .lt a b => a.ok r ∧ b.ok r
  | .no a => a.ok r
  | .all a b => a.ok r ∧ b.ok r
  | .any a b => a.ok r ∧ b.ok r
def Asked.of (nms : List Str) : Asked → Prop
  | .lt a b => a.of nms ∧ b.of nms
  | .no a => a.of nms
  | .all a b => a.of nms ∧ b.of nms
  | .any a b => a.of nms ∧ b.of nms
theorem Asked.of_ok {nms : List Str} {r : Row} (h : RowI r nms) : ∀ {t : Asked}, t.of nms → t.ok r
  | .lt _ _, h1 => ⟨Told.of_ok h h1.1, Told.of_ok h h1.2⟩
  | .no a, h1 => Asked.of_ok (t := a) h h1
  | .all _ _, h1 => ⟨Asked.of_ok h h1.1, Asked.of_ok h h1.2⟩
  | .any _ _, h1 => ⟨Asked.of_ok h h1.1, Asked.of_ok h h1.2⟩
def spHolds (n : Nat) : SpM := fun ds m Q _ => ∃ (t : Asked) (a : Addr) (r : Row), ds = [t.d, .ref a] ∧ t.dp < n ∧ t.td < 13 ∧ rdM m a = some r.o ∧ t.ok r ∧ Q (.bl (t.val r)) m

def spAsked (K : PySem.W.Frag) (n : Nat) : SpM := fun ds m Q _ => ∃ (a : Addr) (s : Dr) (nms : List Str) (dp : Nat), ds = [.ref a, .int dp] ∧ dp < n ∧ DrI K m a s ∧ DrN m s nms ∧
  ∀ (t : Asked) s', t.dp ≤ dp → t.td ≤ 1 → t.of nms → s.nx s' → DrI K (mput m a s'.o) a s' → Q t.d (mput m a s'.o)
abbrev s__law_asked : Stmt := topS 26
theorem sc__law_asked : FnScope ["_law_s", "_law_deep", "_law_way", "_law_one"] ["_law_s", "_law_deep"] (defScope s__law_asked) := ⟨rfl, rfl, rfl, by decide +kernel, rfl, by decide +kernel, by decide +kernel⟩
theorem ok_law_asked {k n : Nat} (Z : Bl mg) {f__law_taken : Addr} {fd__law_taken : FuncData} (D__law_taken : Df K mg "_law_taken" f__law_taken fd__law_taken ["_law_s", "_law_most"]) (G__law_taken : FnM P w K mg base CX0 (k) f__law_taken fd__law_taken ["_law_s", "_law_most"] (spTaken K)) {f__law_told : Addr} {fd__law_told : FuncData} (D__law_told : Df K mg "_law_told" f__law_told fd__law_told ["_law_s", "_law_deep"]) (G__law_told : FnM P w K mg base CX0 (k) f__law_told fd__law_told ["_law_s", "_law_deep"] (spTold K 2)) {f__law_asked : Addr} {fd__law_asked : FuncData} (D__law_asked : Df K mg "_law_asked" f__law_asked fd__law_asked ["_law_s", "_law_deep"]) (G__law_asked : FnM P w K mg base CX0 (k) f__law_asked fd__law_asked ["_law_s", "_law_deep"] (spAsked K n)) (F : Fun K "_law_asked" "_law_asked" s__law_asked f__law_asked fd__law_asked) : FnM P w K mg base CX0 (k + 1) f__law_asked fd__law_asked ["_law_s", "_law_deep"] (spAsked K (n + 1)) := by
  refine fn_m F sc__law_asked (fun ds m Q E h => ?_) (fun cdv A outer s H ds m Q E E' hr h => ?_)
  · obtain ⟨a, s, nms, dp, rfl, _⟩ := h; rfl
  have nd := sc__law_asked.nd
  obtain ⟨a, s, nms, dp, rfl, hd, I, hN, q⟩ := h
  refine ⟨_, (mss_cons (ms_set (i := 2) nd rfl (.inl rfl) (mx_call (Em := noX) G__law_taken hr D__law_taken.m D__law_taken.k D__law_taken.b pass0M (ma_cons (mv 0) (ma_cons mx_int ma_nil))))
    (mss_cons (ms_if (mw_pt (mw_or (mt_cmp mo_lt (mv 2) mx_int (nomark _)) (mw_or1 (mt_cmp (mo_eqq hr) (mv 1) mx_int (nomark _))))) (mss_cons (ms_set (i := 3) nd rfl (.inl rfl) (mx_call (Em := noX) G__law_told hr D__law_told.m D__law_told.k D__law_told.b pass0M (ma_cons (mv 0) (ma_cons mx_int ma_nil))))
    (mss_one (ms_ret (mx_tup (ma_cons mx_str (ma_cons (mv 3) (ma_cons (mx_call (Em := noX) G__law_told hr D__law_told.m D__law_told.k D__law_told.b pass0M (ma_cons (mv 0) (ma_cons mx_int ma_nil))) ma_nil))))))) mss_nil)
    (mss_cons (ms_set (i := 3) nd rfl (.inl rfl) (mx_call (Em := noX) G__law_asked hr D__law_asked.m D__law_asked.k D__law_asked.b pass0M (ma_cons (mv 0) (ma_cons (mx_op mo_sub (mv 1) mx_int) ma_nil))))
    (mss_cons (ms_if (mt_cmp (mo_eqq hr) (mv 2) mx_int (nomark _)) (mss_one (ms_ret (mx_tup (ma_cons mx_str (ma_cons (mv 3) ma_nil))))) mss_nil)
    (mss_one (ms_ret (mx_tup (ma_cons (mx_ix (mi_sub hr) (mx_lst (ma_cons mx_str (ma_cons mx_str ma_nil))) (mx_op mo_sub (mv 2) mx_int)) (ma_cons (mv 3) (ma_cons (mx_call (Em := noX) G__law_asked hr D__law_asked.m D__law_asked.k D__law_asked.b pass0M (ma_cons (mv 0) (ma_cons (mx_op mo_sub (mv 1) mx_int) ma_nil))) ma_nil)))))))))), ?_⟩
  wtm_at "go"
  refine spTaken.mk I (by decide) (by decide) fun way s1 h0 h1 n1 I1 => ?_
  have N1 := hN.put I n1
  have e2 : ∀ s1 s' : Dr, mput (mput m a s1.o) a s'.o = mput m a s'.o := fun s1 s' => mput_mput
  have I1e := I1.e
  have I1r := I1.rd
  wtm_at "go"
  refine i_ite (fun c => ?_) (fun c => ?_)
  rotate_left
  wtm_at "go"
  refine i_ite (fun c' => ?_) (fun c' => ?_)
  rotate_left
  · have c1 : ¬ way < 3 := of_decide_eq_false c
    have c2 : ¬ (dp : Int) = 0 := of_decide_eq_false c'
    have ed : (dp : Int) - 1 = ((dp - 1 : Nat) : Int) := by omega
    wtm_at "go"
    rw [ed]
    refine ⟨a, s1, nms, dp - 1, rfl, by omega, I1, N1, fun t1 s2 d1 w1 o1 n2 I2 => ?_⟩
    rw [e2] at I2 ⊢
    have N2 := N1.put I1 n2
    rw [e2] at N2
    wtm_at "go"
    refine i_ite (fun c3 => ?_) (fun c3 => ?_)
    · wtm_at "go"
      exact RtM.mk (q (.no t1) s2 (by show t1.dp + 1 ≤ dp; omega) w1 o1 (Dr.nx_trans n1 n2) I2)
    · have c4 : ¬ way = 3 := of_decide_eq_false c3
      wtm_at "go"
      intro p hp
      have I2' := I2.new (o := .lst [.str (Str.ofString "all"), .str (Str.ofString "any")]) hp
      obtain ⟨wd, mk, hj, g1, g2, g3, g4⟩ : ∃ (wd : Str) (mk : Asked → Asked → Asked), atI [D.str (Str.ofString "all"), .str (Str.ofString "any")] (way - 4) = some (.str wd) ∧ (∀ x y, (mk x y).d = .tup [.str wd, x.d, y.d]) ∧ (∀ x y, (mk x y).dp = max x.dp y.dp + 1) ∧ (∀ x y, (mk x y).td = max x.td y.td) ∧ (∀ x y, x.of nms → y.of nms → (mk x y).of nms) := by
        have : way = 4 ∨ way = 5 := by omega
        rcases this with rfl | rfl
        · exact ⟨"all", .all, rfl, fun _ _ => rfl, fun _ _ => rfl, fun _ _ => rfl, fun _ _ a b => ⟨a, b⟩⟩
        · exact ⟨"any", .any, rfl, fun _ _ => rfl, fun _ _ => rfl, fun _ _ => rfl, fun _ _ a b => ⟨a, b⟩⟩
      wtm_at "go"
      refine i_subL (rd_L mput_same) hj ?_
      wtm_at "go"
      rw [ed]
      refine ⟨a, s2, nms, dp - 1, rfl, by omega, I2', N2.new hp, fun t2 s3 d2 w2 o2 n3 I3 => ?_⟩
      have I3' : DrI K (mput m a s3.o) a s3 := by
        have := DrI.put (s' := s3) I2 n3.1 I3.at0 I3.rest0 I3.mix0 I3.mix1
        rw [e2] at this; exact this
      wtm_at "go"
      rw [← g1]
      refine RtM.sub ?_ (q (mk t1 t2) s3 (by rw [g2]; omega) (by rw [g3]; omega) (g4 _ _ o1 o2) (Dr.nx_trans n1 (Dr.nx_trans n2 n3)) I3')
      rw [← e2 s2 s3]; exact Sub.put (Sub.refl.new hp)
  all_goals (
    wtm_at "go"
    refine ⟨a, s1, nms, 1, rfl, by omega, I1, N1, fun t1 s2 d1 o1 n2 I2 => ?_⟩
    rw [e2] at I2 ⊢
    have N2 := N1.put I1 n2
    rw [e2] at N2
    wtm_at "go"
    refine ⟨a, s2, nms, 1, rfl, by omega, I2, N2, fun t2 s3 d2 o2 n3 I3 => ?_⟩
    rw [e2] at I3 ⊢
    wtm_at "go"
    exact RtM.mk (q (.lt t1 t2) s3 (Nat.zero_le _) (by show max t1.dp t2.dp ≤ 1; omega) ⟨o1, o2⟩ (Dr.nx_trans n1 (Dr.nx_trans n2 n3)) I3))
theorem fin_law_asked {c : Nat} (Z : Bl mg) {f__law_taken : Addr} {fd__law_taken : FuncData} (D__law_taken : Df K mg "_law_taken" f__law_taken fd__law_taken ["_law_s", "_law_most"]) (G__law_taken : FnM P w K mg base CX0 (c) f__law_taken fd__law_taken ["_law_s", "_law_most"] (spTaken K)) {f__law_told : Addr} {fd__law_told : FuncData} (D__law_told : Df K mg "_law_told" f__law_told fd__law_told ["_law_s", "_law_deep"]) (G__law_told : FnM P w K mg base CX0 (c) f__law_told fd__law_told ["_law_s", "_law_deep"] (spTold K 2)) {f__law_asked : Addr} {fd__law_asked : FuncData} (D__law_asked : Df K mg "_law_asked" f__law_asked fd__law_asked ["_law_s", "_law_deep"]) (F : Fun K "_law_asked" "_law_asked" s__law_asked f__law_asked fd__law_asked) : ∀ n, FnM P w K mg base CX0 (c + n) f__law_asked fd__law_asked ["_law_s", "_law_deep"] (spAsked K n)
  | 0 => fn_none fun ds m Q E ⟨a, s, nms, dp, _, h, _⟩ => by omega
  | n + 1 => ok_law_asked Z D__law_taken (G__law_taken.mono (Nat.le_add_right c n)) D__law_told (G__law_told.mono (Nat.le_add_right c n)) D__law_asked (fin_law_asked Z D__law_taken G__law_taken D__law_told G__law_told D__law_asked F n) F

local macro_rules | `(tactic| wtm_at "mem") => `(tactic| with_reducible first | assumption | exact mput_same | (apply DrS.rd; assumption) | (apply DrS.e; assumption) | (apply DrS.nl; assumption) | (apply mput_new; assumption; wtm_at "mem") | (apply mput_off; assumption; wtm_at "mem") | (apply mput_off'; assumption; wtm_at "mem") | (apply rd_K; wtm_at "mem") | (apply rd_L; wtm_at "mem") | (apply rd_T; wtm_at "mem") | (apply rd_I; wtm_at "mem") | (apply rd_frz; wtm_at "mem") | fail)

/-! ### drawing on -/
/-- the draw stands at s in the memory M; of what was at m all else stays -/
structure DrS (K : PySem.W.Frag) (m : Mem) (a : Addr) (nms : List Str) (s : Dr) (M : Mem) : Prop where
  I : DrI K M a s
  N : DrN M s nms
  S : Sub (mput m a s.o) M
  J : DrI K (mput m a s.o) a s
theorem DrS.start {K : PySem.W.Frag} {m : Mem} {a : Addr} {nms : List Str} {s : Dr} (I : DrI K m a s) (N : DrN m s nms) : DrS K m a nms s m := ⟨I, N, by rw [mput_self I.e]; exact Sub.refl, by rw [mput_self I.e]; exact I⟩
theorem DrS.on {K : PySem.W.Frag} {m M : Mem} {a : Addr} {nms : List Str} {s s' : Dr} (S : DrS K m a nms s M) (n : s.nx s') (I : DrI K (mput M a s'.o) a s') : DrS K m a nms s' (mput M a s'.o) := by
  refine ⟨I, S.N.put S.I n, ?_, ?_⟩
  · have : mput (mput m a s.o) a s'.o = mput m a s'.o := mput_mput
    rw [← this]; exact S.S.put
  · have := S.J.put (s' := s') n.1 I.at0 I.rest0 I.mix0 I.mix1
    have e : mput (mput m a s.o) a s'.o = mput m a s'.o := mput_mput
    rw [e] at this; exact this
theorem DrS.new {K : PySem.W.Frag} {m M : Mem} {a p : Addr} {nms : List Str} {s : Dr} {o : O} (S : DrS K m a nms s M) (hp : M p = none) : DrS K m a nms s (mput M p o) := ⟨S.I.new hp, S.N.new hp, S.S.new hp, S.J⟩
theorem DrS.rd {K : PySem.W.Frag} {m M : Mem} {a : Addr} {nms : List Str} {s : Dr} (S : DrS K m a nms s M) : rdM M a = some (.dK s.kvs) := S.I.rd
theorem DrS.e {K : PySem.W.Frag} {m M : Mem} {a : Addr} {nms : List Str} {s : Dr} (S : DrS K m a nms s M) : M a = some (.dK s.kvs) := S.I.e
theorem DrS.nl {K : PySem.W.Frag} {m M : Mem} {a : Addr} {nms : List Str} {s : Dr} (S : DrS K m a nms s M) : rdM M s.nm = some (.lst (nms.map .str)) := S.N.1
theorem spTaken.mkS {K : PySem.W.Frag} {m M : Mem} {Q : KM} {Em : XM} {a : Addr} {k : Int} {s : Dr} {nms : List Str} (S : DrS K m a nms s M) (h0 : 0 < k) (h1 : k ≤ 10 ^ 13)
    (q : ∀ r s', 0 ≤ r → r < k → s.nx s' → DrS K m a nms s' (mput M a s'.o) → Q (.int r) (mput M a s'.o)) : spTaken K [.ref a, .int k] M Q Em :=
  ⟨a, k, s, rfl, S.I, h0, h1, fun r s' a0 a1 n I => q r s' a0 a1 n (S.on n I)⟩
theorem spNumber.mkS {K : PySem.W.Frag} {m M : Mem} {Q : KM} {Em : XM} {a : Addr} {s : Dr} {nms : List Str} (S : DrS K m a nms s M)
    (q : ∀ v s', v.natAbs < 10 ^ 12 → s.nx s' → DrS K m a nms s' (mput M a s'.o) → Q (.int v) (mput M a s'.o)) : spNumber K [.ref a] M Q Em :=
  ⟨a, s, rfl, S.I, fun r s' a0 n I => q r s' a0 n (S.on n I)⟩
theorem spTold.mkS {K : PySem.W.Frag} {m M : Mem} {Q : KM} {Em : XM} {a : Addr} {s : Dr} {nms : List Str} {n dp : Nat} {x : Int} (S : DrS K m a nms s M) (e : x = dp) (h : dp < n)
    (q : ∀ (t : Told) s', t.dp ≤ dp → t.of nms → s.nx s' → DrS K m a nms s' (mput M a s'.o) → Q t.d (mput M a s'.o)) : spTold K n [.ref a, .int x] M Q Em :=
  ⟨a, s, nms, dp, by rw [e], h, S.I, S.N, fun r s' a0 a1 n I => q r s' a0 a1 n (S.on n I)⟩
theorem spAsked.mkS {K : PySem.W.Frag} {m M : Mem} {Q : KM} {Em : XM} {a : Addr} {s : Dr} {nms : List Str} {n dp : Nat} {x : Int} (S : DrS K m a nms s M) (e : x = dp) (h : dp < n)
    (q : ∀ (t : Asked) s', t.dp ≤ dp → t.td ≤ 1 → t.of nms → s.nx s' → DrS K m a nms s' (mput M a s'.o) → Q t.d (mput M a s'.o)) : spAsked K n [.ref a, .int x] M Q Em :=
  ⟨a, s, nms, dp, by rw [e], h, S.I, S.N, fun r s' a0 a1 a2 n I => q r s' a0 a1 a2 n (S.on n I)⟩
theorem wordOf_nx {s s' : Dr} (n : s.nx s') : wordOf s' = wordOf s := by
  obtain ⟨_, _, h1, h2, h3, h4⟩ := n
  funext k
  unfold wordOf
  rw [h1, h2, h3, h4]
theorem spWord.mkS {K : PySem.W.Frag} {m M : Mem} {Q : KM} {Em : XM} {a : Addr} {s : Dr} {nms : List Str} {k : Int} (S : DrS K m a nms s M) (B : DrB s) (h0 : 0 ≤ k) (q : Q (.str (wordOf s k)) M) : spWord K [.ref a, .int k] M Q Em := ⟨a, s, k, rfl, S.rd, B, h0, q⟩

/-! ### contracts -/
inductive Con where
  | no | give (a b g : Str) (t : Told) | both (x y : Con) | turned (a b : Str) (x : Con) | later (h : Int) (x : Con) | often (n k : Int) (x : Con) | ite (q : Asked) (x y : Con) | when (q : Asked) (x : Con) | till (q : Asked) (x : Con)
def Con.d : Con → D
  | .no => .tup [.str "none"]
  | .give a b g t => .tup [.str "give", .str a, .str b, .str g, t.d]
  | .both x y => .tup [.str "both", x.d, y.d]
  | .turned a b x => .tup [.str "turned", .str a, .str b, x.d]
  | .later h x => .tup [.str "later", .int h, x.d]
  | .often n k x => .tup [.str "often", .int n, .int k, x.d]
  | .ite q x y => .tup [.str "if", q.d, x.d, y.d]
  | .when q x => .tup [.str "when", q.d, x.d]
  | .till q x => .tup [.str "until", q.d, x.d]
/-- two sides of the draw's -/
def sidesOf (wd : Int → Str) (a b : Str) : Prop := ∃ i j : Int, 0 ≤ i ∧ i < 4 ∧ 0 ≤ j ∧ j < 4 ∧ i ≠ j ∧ a = wd i ∧ b = wd j
def goodOf (wd : Int → Str) (g : Str) : Prop := ∃ i : Int, 4 ≤ i ∧ i < 8 ∧ g = wd i
/-- drawn: its words are the draw's, its numbers within -/
def Con.of (wd : Int → Str) (nms : List Str) : Con → Prop
  | .no => True
  | .give a b g t => sidesOf wd a b ∧ goodOf wd g ∧ t.of nms ∧ t.dp ≤ 2
  | .both x y => x.of wd nms ∧ y.of wd nms
  | .turned a b x => sidesOf wd a b ∧ x.of wd nms
  | .later h x => (0 ≤ h ∧ h ≤ 99) ∧ x.of wd nms
  | .often n k x => (1 ≤ n ∧ n ≤ 9 ∧ 1 ≤ k ∧ k ≤ 2) ∧ x.of wd nms
  | .ite q x y => (q.of nms ∧ q.dp ≤ 2 ∧ q.td ≤ 1) ∧ x.of wd nms ∧ y.of wd nms
  | .when q x => (q.of nms ∧ q.dp ≤ 2 ∧ q.td ≤ 1) ∧ x.of wd nms
  | .till q x => (q.of nms ∧ q.dp ≤ 2 ∧ q.td ≤ 1) ∧ x.of wd nms
def Con.dp : Con → Nat
  | .no => 0
  | .give _ _ _ _ => 0
  | .both x y => max x.dp y.dp + 1
  | .turned _ _ x => x.dp + 1
  | .later _ x => x.dp + 1
  | .often _ _ x => x.dp + 1
  | .ite _ x y => max x.dp y.dp + 1
  | .when _ x => x.dp + 1
  | .till _ x => x.dp + 1
/-- a draw that makes d with C -/
def DrawTo (K : PySem.W.Frag) (a : Addr) (m : Mem) (Q : KM) (C : Dr → List Str → D → Prop) : Prop := ∃ s nms, DrI K m a s ∧ DrN m s nms ∧ DrB s ∧
  ∀ d s', C s nms d → s.nx s' → DrI K (mput m a s'.o) a s' → Q d (mput m a s'.o)
theorem DrawTo.mkS {K : PySem.W.Frag} {m M : Mem} {Q : KM} {a : Addr} {s : Dr} {nms : List Str} {C : Dr → List Str → D → Prop} (S : DrS K m a nms s M) (B : DrB s)
    (q : ∀ d s', C s nms d → s.nx s' → DrS K m a nms s' (mput M a s'.o) → Q d (mput M a s'.o)) : DrawTo K a M Q C := ⟨s, nms, S.I, S.N, B, fun d s' c n I => q d s' c n (S.on n I)⟩
def spSides (K : PySem.W.Frag) : SpM := fun ds m Q _ => ∃ a, ds = [.ref a] ∧ DrawTo K a m Q fun s _ d => ∃ x y, sidesOf (wordOf s) x y ∧ d = .tup [.str x, .str y]
def spGood (K : PySem.W.Frag) : SpM := fun ds m Q _ => ∃ a, ds = [.ref a] ∧ DrawTo K a m Q fun s _ d => ∃ x, goodOf (wordOf s) x ∧ d = .str x
def Con.gv : Con → Prop
  | .give _ _ _ _ => True
  | _ => False
def spGive (K : PySem.W.Frag) : SpM := fun ds m Q _ => ∃ a, ds = [.ref a] ∧ DrawTo K a m Q fun s nms d => ∃ c : Con, c.of (wordOf s) nms ∧ (c.dp = 0 ∧ c.gv) ∧ d = c.d
def spCon (K : PySem.W.Frag) (n : Nat) : SpM := fun ds m Q _ => ∃ (a : Addr) (dp : Nat), ds = [.ref a, .int dp] ∧ dp < n ∧ DrawTo K a m Q fun s nms d => ∃ c : Con, c.of (wordOf s) nms ∧ c.dp ≤ dp ∧ d = c.d
abbrev s__law_sides : Stmt := topS 27
theorem sc__law_sides : FnScope ["_law_s", "_law_many", "_law_one", "_law_other"] ["_law_s"] (defScope s__law_sides) := ⟨rfl, rfl, rfl, by decide +kernel, rfl, by decide +kernel, by decide +kernel⟩
theorem ok_law_sides {k : Nat} (Z : Bl mg) {f__law_taken : Addr} {fd__law_taken : FuncData} (D__law_taken : Df K mg "_law_taken" f__law_taken fd__law_taken ["_law_s", "_law_most"]) (G__law_taken : FnM P w K mg base CX0 (k) f__law_taken fd__law_taken ["_law_s", "_law_most"] (spTaken K)) {f__law_word : Addr} {fd__law_word : FuncData} (D__law_word : Df K mg "_law_word" f__law_word fd__law_word ["_law_s", "_law_k"]) (G__law_word : FnM P w K mg base CX0 (k) f__law_word fd__law_word ["_law_s", "_law_k"] (spWord K)) {f__law_sides : Addr} {fd__law_sides : FuncData} (F : Fun K "_law_sides" "_law_sides" s__law_sides f__law_sides fd__law_sides) : FnM P w K mg base CX0 (k + 1) f__law_sides fd__law_sides ["_law_s"] (spSides K) := by
  refine fn_m F sc__law_sides (fun ds m Q E h => ?_) (fun cdv A outer s H ds m Q E E' hr h => ?_)
  · obtain ⟨a, rfl, _⟩ := h; rfl
  have nd := sc__law_sides.nd
  obtain ⟨a, rfl, s, nms, I, N, B, q⟩ := h
  have S := DrS.start I N
  refine ⟨_, (mss_cons (ms_set (i := 1) nd rfl (.inl rfl) (mx_ix (mi_sub hr) (mx_lst (ma_cons mx_int (ma_cons mx_int (ma_cons mx_int ma_nil)))) (mx_call (Em := noX) G__law_taken hr D__law_taken.m D__law_taken.k D__law_taken.b pass0M (ma_cons (mv 0) (ma_cons mx_int ma_nil)))))
    (mss_cons (ms_set (i := 2) nd rfl (.inl rfl) (mx_call (Em := noX) G__law_taken hr D__law_taken.m D__law_taken.k D__law_taken.b pass0M (ma_cons (mv 0) (ma_cons (mv 1) ma_nil))))
    (mss_cons (ms_set (i := 3) nd rfl (.inl rfl) (mx_op mo_mod (mx_op mo_plus (mx_op mo_plus (mv 2) mx_int) (mx_call (Em := noX) G__law_taken hr D__law_taken.m D__law_taken.k D__law_taken.b pass0M (ma_cons (mv 0) (ma_cons (mx_op mo_sub (mv 1) mx_int) ma_nil)))) (mv 1)))
    (mss_one (ms_ret (mx_tup (ma_cons (mx_call (Em := noX) G__law_word hr D__law_word.m D__law_word.k D__law_word.b pass0M (ma_cons (mv 0) (ma_cons (mv 2) ma_nil))) (ma_cons (mx_call (Em := noX) G__law_word hr D__law_word.m D__law_word.k D__law_word.b pass0M (ma_cons (mv 0) (ma_cons (mv 3) ma_nil))) ma_nil)))))))), ?_⟩
  wtm_at "go"
  intro p hp
  have S0 := S.new (o := .lst [.int 3, .int 3, .int 4]) hp
  wtm_at "go"
  refine spTaken.mkS S0 (by decide) (by decide) fun i s1 h0 h1 n1 S1 => ?_
  wtm_at "go"
  obtain ⟨mm, hm, hm1, hm2⟩ : ∃ mm : Int, atI [D.int 3, .int 3, .int 4] i = some (.int mm) ∧ 3 ≤ mm ∧ mm ≤ 4 := by
    have : i = 0 ∨ i = 1 ∨ i = 2 := by omega
    rcases this with rfl | rfl | rfl
    · exact ⟨3, rfl, by decide, by decide⟩
    · exact ⟨3, rfl, by decide, by decide⟩
    · exact ⟨4, rfl, by decide, by decide⟩
  have nap : p ≠ a := fun z => by rw [z, I.e] at hp; cases hp
  refine i_subL (rd_L (by rw [mput_ne nap]; exact mput_same)) hm ?_
  wtm_at "go"
  refine spTaken.mkS S1 (by omega) (by omega) fun j s2 j0 j1 n2 S2 => ?_
  wtm_at "go"
  refine spTaken.mkS S2 (by omega) (by omega) fun l s3 l0 l1 n3 S3 => ?_
  wtm_at "go"
  have n13 := Dr.nx_trans n1 (Dr.nx_trans n2 n3)
  have B3 := B.nx n13
  have k0 : 0 ≤ (j + 1 + l) % mm := Int.emod_nonneg _ (by omega)
  have k1 : (j + 1 + l) % mm < mm := Int.emod_lt_of_pos _ (by omega)
  refine spWord.mkS S3 B3 j0 ?_
  wtm_at "go"
  refine spWord.mkS S3 B3 k0 ?_
  wtm_at "go"
  refine RtM.sub S3.S (q _ s3 ⟨_, _, ⟨j, (j + 1 + l) % mm, j0, by omega, k0, by omega, ?_, rfl, rfl⟩, ?_⟩ n13 S3.J)
  · intro e
    have hd := Int.emod_add_mul_ediv (j + 1 + l) mm
    rcases (by omega : (j + 1 + l) / mm = 0 ∨ (j + 1 + l) / mm ≠ 0) with z | z
    · rw [z] at hd; omega
    · have : j + 1 + l < mm + mm := by omega
      have z2 : (j + 1 + l) / mm = 1 := by
        have a1 : (j + 1 + l) / mm < 2 := Int.ediv_lt_of_lt_mul (by omega) (by omega)
        have a2 : 0 ≤ (j + 1 + l) / mm := Int.ediv_nonneg (by omega) (by omega)
        omega
      rw [z2] at hd; omega
  · rw [wordOf_nx n13]
abbrev s__law_good : Stmt := topS 28
theorem sc__law_good : FnScope ["_law_s"] ["_law_s"] (defScope s__law_good) := ⟨rfl, rfl, rfl, by decide +kernel, rfl, by decide +kernel, by decide +kernel⟩
theorem ok_law_good {k : Nat} (Z : Bl mg) {f__law_taken : Addr} {fd__law_taken : FuncData} (D__law_taken : Df K mg "_law_taken" f__law_taken fd__law_taken ["_law_s", "_law_most"]) (G__law_taken : FnM P w K mg base CX0 (k) f__law_taken fd__law_taken ["_law_s", "_law_most"] (spTaken K)) {f__law_word : Addr} {fd__law_word : FuncData} (D__law_word : Df K mg "_law_word" f__law_word fd__law_word ["_law_s", "_law_k"]) (G__law_word : FnM P w K mg base CX0 (k) f__law_word fd__law_word ["_law_s", "_law_k"] (spWord K)) {f__law_good : Addr} {fd__law_good : FuncData} (F : Fun K "_law_good" "_law_good" s__law_good f__law_good fd__law_good) : FnM P w K mg base CX0 (k + 1) f__law_good fd__law_good ["_law_s"] (spGood K) := by
  refine fn_m F sc__law_good (fun ds m Q E h => ?_) (fun cdv A outer s H ds m Q E E' hr h => ?_)
  · obtain ⟨a, rfl, _⟩ := h; rfl
  have nd := sc__law_good.nd
  obtain ⟨a, rfl, s, nms, I, N, B, q⟩ := h
  have S := DrS.start I N
  refine ⟨_, (mss_one (ms_ret (mx_call (Em := noX) G__law_word hr D__law_word.m D__law_word.k D__law_word.b pass0M (ma_cons (mv 0) (ma_cons (mx_op mo_plus mx_int (mx_call (Em := noX) G__law_taken hr D__law_taken.m D__law_taken.k D__law_taken.b pass0M (ma_cons (mv 0) (ma_cons (mx_ix (mi_sub hr) (mx_lst (ma_cons mx_int (ma_cons mx_int (ma_cons mx_int ma_nil)))) (mx_call (Em := noX) G__law_taken hr D__law_taken.m D__law_taken.k D__law_taken.b pass0M (ma_cons (mv 0) (ma_cons mx_int ma_nil)))) ma_nil)))) ma_nil))))), ?_⟩
  wtm_at "go"
  intro p hp
  have S0 := S.new (o := .lst [.int 2, .int 2, .int 4]) hp
  wtm_at "go"
  refine spTaken.mkS S0 (by decide) (by decide) fun i s1 h0 h1 n1 S1 => ?_
  wtm_at "go"
  obtain ⟨mm, hm, hm1, hm2⟩ : ∃ mm : Int, atI [D.int 2, .int 2, .int 4] i = some (.int mm) ∧ 2 ≤ mm ∧ mm ≤ 4 := by
    have : i = 0 ∨ i = 1 ∨ i = 2 := by omega
    rcases this with rfl | rfl | rfl
    · exact ⟨2, rfl, by decide, by decide⟩
    · exact ⟨2, rfl, by decide, by decide⟩
    · exact ⟨4, rfl, by decide, by decide⟩
  have nap : p ≠ a := fun z => by rw [z, I.e] at hp; cases hp
  refine i_subL (rd_L (by rw [mput_ne nap]; exact mput_same)) hm ?_
  wtm_at "go"
  refine spTaken.mkS S1 (by omega) (by omega) fun j s2 j0 j1 n2 S2 => ?_
  wtm_at "go"
  have n12 := Dr.nx_trans n1 n2
  refine spWord.mkS S2 (B.nx n12) (by omega) ?_
  exact RtM.sub S2.S (q _ s2 ⟨_, ⟨4 + j, by omega, by omega, rfl⟩, by rw [wordOf_nx n12]⟩ n12 S2.J)
abbrev s__law_give : Stmt := topS 29
theorem sc__law_give : FnScope ["_law_s", "_law_one", "_law_other", "_law_good_here"] ["_law_s"] (defScope s__law_give) := ⟨rfl, rfl, rfl, by decide +kernel, rfl, by decide +kernel, by decide +kernel⟩
theorem ok_law_give {k : Nat} (Z : Bl mg) {f__law_sides : Addr} {fd__law_sides : FuncData} (D__law_sides : Df K mg "_law_sides" f__law_sides fd__law_sides ["_law_s"]) (G__law_sides : FnM P w K mg base CX0 (k) f__law_sides fd__law_sides ["_law_s"] (spSides K)) {f__law_good : Addr} {fd__law_good : FuncData} (D__law_good : Df K mg "_law_good" f__law_good fd__law_good ["_law_s"]) (G__law_good : FnM P w K mg base CX0 (k) f__law_good fd__law_good ["_law_s"] (spGood K)) {f__law_told : Addr} {fd__law_told : FuncData} (D__law_told : Df K mg "_law_told" f__law_told fd__law_told ["_law_s", "_law_deep"]) (G__law_told : FnM P w K mg base CX0 (k) f__law_told fd__law_told ["_law_s", "_law_deep"] (spTold K 3)) {f__law_give : Addr} {fd__law_give : FuncData} (F : Fun K "_law_give" "_law_give" s__law_give f__law_give fd__law_give) : FnM P w K mg base CX0 (k + 1) f__law_give fd__law_give ["_law_s"] (spGive K) := by
  refine fn_m F sc__law_give (fun ds m Q E h => ?_) (fun cdv A outer s H ds m Q E E' hr h => ?_)
  · obtain ⟨a, rfl, _⟩ := h; rfl
  have nd := sc__law_give.nd
  obtain ⟨a, rfl, s, nms, I, N, B, q⟩ := h
  have S := DrS.start I N
  refine ⟨_, (mss_cons (ms_asg (mx_call (Em := noX) G__law_sides hr D__law_sides.m D__law_sides.k D__law_sides.b pass0M (ma_cons (mv 0) ma_nil)) (mg_tup rfl (mgs_cons (mg_name (i := 1) nd rfl (.inl rfl)) (mgs_cons (mg_name (i := 2) nd rfl (.inl rfl)) mgs_nil))))
    (mss_cons (ms_set (i := 3) nd rfl (.inl rfl) (mx_call (Em := noX) G__law_good hr D__law_good.m D__law_good.k D__law_good.b pass0M (ma_cons (mv 0) ma_nil)))
    (mss_one (ms_ret (mx_tup (ma_cons mx_str (ma_cons (mv 1) (ma_cons (mv 2) (ma_cons (mv 3) (ma_cons (mx_call (Em := noX) G__law_told hr D__law_told.m D__law_told.k D__law_told.b pass0M (ma_cons (mv 0) (ma_cons mx_int ma_nil))) ma_nil)))))))))), ?_⟩
  wtm_at "go"
  refine ⟨a, rfl, DrawTo.mkS S B ?_⟩
  rintro d s1 ⟨x, y, hxy, rfl⟩ n1 S1
  wtm_at "go"
  have B1 := B.nx n1
  refine ⟨a, rfl, DrawTo.mkS S1 B1 ?_⟩
  rintro d s2 ⟨g, hg, rfl⟩ n2 S2
  wtm_at "go"
  refine spTold.mkS (dp := 2) S2 rfl (by omega) fun t s3 td tof n3 S3 => ?_
  wtm_at "go"
  rw [wordOf_nx n1] at hg
  exact RtM.sub S3.S (q _ s3 ⟨.give x y g t, ⟨hxy, hg, tof, td⟩, ⟨rfl, trivial⟩, rfl⟩ (Dr.nx_trans n1 (Dr.nx_trans n2 n3)) S3.J)

theorem spCon.mkS {K : PySem.W.Frag} {m M : Mem} {Q : KM} {Em : XM} {a : Addr} {s : Dr} {nms : List Str} {n dp : Nat} {x : Int} (S : DrS K m a nms s M) (B : DrB s) (e : x = dp) (h : dp < n)
    (q : ∀ (c : Con) s', c.of (wordOf s) nms → c.dp ≤ dp → s.nx s' → DrS K m a nms s' (mput M a s'.o) → Q c.d (mput M a s'.o)) : spCon K n [.ref a, .int x] M Q Em :=
  ⟨a, dp, by rw [e], h, DrawTo.mkS S B fun d s' ⟨c, h1, h2, e⟩ n1 S1 => by rw [e]; exact q c s' h1 h2 n1 S1⟩
theorem spSides.mkS {K : PySem.W.Frag} {m M : Mem} {Q : KM} {Em : XM} {a : Addr} {s : Dr} {nms : List Str} (S : DrS K m a nms s M) (B : DrB s)
    (q : ∀ x y s', sidesOf (wordOf s) x y → s.nx s' → DrS K m a nms s' (mput M a s'.o) → Q (.tup [.str x, .str y]) (mput M a s'.o)) : spSides K [.ref a] M Q Em :=
  ⟨a, rfl, DrawTo.mkS S B fun d s' ⟨x, y, h1, e⟩ n1 S1 => by rw [e]; exact q x y s' h1 n1 S1⟩
theorem spGood.mkS {K : PySem.W.Frag} {m M : Mem} {Q : KM} {Em : XM} {a : Addr} {s : Dr} {nms : List Str} (S : DrS K m a nms s M) (B : DrB s)
    (q : ∀ x s', goodOf (wordOf s) x → s.nx s' → DrS K m a nms s' (mput M a s'.o) → Q (.str x) (mput M a s'.o)) : spGood K [.ref a] M Q Em :=
  ⟨a, rfl, DrawTo.mkS S B fun d s' ⟨x, h1, e⟩ n1 S1 => by rw [e]; exact q x s' h1 n1 S1⟩
abbrev s__law_contract : Stmt := topS 30
theorem sc__law_contract : FnScope ["_law_s", "_law_deep", "_law_way", "_law_one", "_law_hours", "_law_many", "_law_asked_here"] ["_law_s", "_law_deep"] (defScope s__law_contract) := ⟨rfl, rfl, rfl, by decide +kernel, rfl, by decide +kernel, by decide +kernel⟩
theorem ok_law_contract {k n : Nat} (Z : Bl mg) {f__law_taken : Addr} {fd__law_taken : FuncData} (D__law_taken : Df K mg "_law_taken" f__law_taken fd__law_taken ["_law_s", "_law_most"]) (G__law_taken : FnM P w K mg base CX0 (k) f__law_taken fd__law_taken ["_law_s", "_law_most"] (spTaken K)) {f__law_give : Addr} {fd__law_give : FuncData} (D__law_give : Df K mg "_law_give" f__law_give fd__law_give ["_law_s"]) (G__law_give : FnM P w K mg base CX0 (k) f__law_give fd__law_give ["_law_s"] (spGive K)) {f__law_sides : Addr} {fd__law_sides : FuncData} (D__law_sides : Df K mg "_law_sides" f__law_sides fd__law_sides ["_law_s"]) (G__law_sides : FnM P w K mg base CX0 (k) f__law_sides fd__law_sides ["_law_s"] (spSides K)) {f__law_asked : Addr} {fd__law_asked : FuncData} (D__law_asked : Df K mg "_law_asked" f__law_asked fd__law_asked ["_law_s", "_law_deep"]) (G__law_asked : FnM P w K mg base CX0 (k) f__law_asked fd__law_asked ["_law_s", "_law_deep"] (spAsked K 3)) {f__law_contract : Addr} {fd__law_contract : FuncData} (D__law_contract : Df K mg "_law_contract" f__law_contract fd__law_contract ["_law_s", "_law_deep"]) (G__law_contract : FnM P w K mg base CX0 (k) f__law_contract fd__law_contract ["_law_s", "_law_deep"] (spCon K n)) (F : Fun K "_law_contract" "_law_contract" s__law_contract f__law_contract fd__law_contract) : FnM P w K mg base CX0 (k + 1) f__law_contract fd__law_contract ["_law_s", "_law_deep"] (spCon K (n + 1)) := by
  refine fn_m F sc__law_contract (fun ds m Q E h => ?_) (fun cdv A outer s H ds m Q E E' hr h => ?_)
  · obtain ⟨a, dp, rfl, _⟩ := h; rfl
  have nd := sc__law_contract.nd
  obtain ⟨a, dp, rfl, hd, s, nms, I, N, B, q⟩ := h
  have S := DrS.start I N
  refine ⟨_, (mss_cons (ms_set (i := 2) nd rfl (.inl rfl) (mx_call (Em := noX) G__law_taken hr D__law_taken.m D__law_taken.k D__law_taken.b pass0M (ma_cons (mv 0) (ma_cons mx_int ma_nil))))
    (mss_cons (ms_if (mw_pt (mw_or (mt_cmp (mo_eqq hr) (mv 1) mx_int (nomark _)) (mw_or1 (mt_cmp mo_lt (mv 2) mx_int (nomark _))))) (mss_one (ms_ret (mx_call (Em := noX) G__law_give hr D__law_give.m D__law_give.k D__law_give.b pass0M (ma_cons (mv 0) ma_nil)))) mss_nil)
    (mss_cons (ms_if (mt_cmp (mo_eqq hr) (mv 2) mx_int (nomark _)) (mss_one (ms_ret (mx_tup (ma_cons mx_str ma_nil)))) mss_nil)
    (mss_cons (ms_if (mt_cmp mo_lt (mv 2) mx_int (nomark _)) (mss_cons (ms_set (i := 3) nd rfl (.inl rfl) (mx_call (Em := noX) G__law_contract hr D__law_contract.m D__law_contract.k D__law_contract.b pass0M (ma_cons (mv 0) (ma_cons (mx_op mo_sub (mv 1) mx_int) ma_nil))))
    (mss_one (ms_ret (mx_tup (ma_cons mx_str (ma_cons (mv 3) (ma_cons (mx_call (Em := noX) G__law_contract hr D__law_contract.m D__law_contract.k D__law_contract.b pass0M (ma_cons (mv 0) (ma_cons (mx_op mo_sub (mv 1) mx_int) ma_nil))) ma_nil))))))) mss_nil)
    (mss_cons (ms_if (mt_cmp (mo_eqq hr) (mv 2) mx_int (nomark _)) (mss_one (ms_ret (mx_op mo_plus (mx_op mo_plus (mx_tup (ma_cons mx_str ma_nil)) (mx_call (Em := noX) G__law_sides hr D__law_sides.m D__law_sides.k D__law_sides.b pass0M (ma_cons (mv 0) ma_nil))) (mx_tup (ma_cons (mx_call (Em := noX) G__law_contract hr D__law_contract.m D__law_contract.k D__law_contract.b pass0M (ma_cons (mv 0) (ma_cons (mx_op mo_sub (mv 1) mx_int) ma_nil))) ma_nil))))) mss_nil)
    (mss_cons (ms_if (mt_cmp (mo_eqq hr) (mv 2) mx_int (nomark _)) (mss_cons (ms_set (i := 4) nd rfl (.inl rfl) (mx_ix (mi_sub hr) (mx_lst (ma_cons (mx_call (Em := noX) G__law_taken hr D__law_taken.m D__law_taken.k D__law_taken.b pass0M (ma_cons (mv 0) (ma_cons mx_int ma_nil))) (ma_cons (mx_call (Em := noX) G__law_taken hr D__law_taken.m D__law_taken.k D__law_taken.b pass0M (ma_cons (mv 0) (ma_cons mx_int ma_nil))) ma_nil))) (mx_callTy mc_int1 Z.b_int (ma_cons (mx_cmp (mo_eqq hr) (mx_call (Em := noX) G__law_taken hr D__law_taken.m D__law_taken.k D__law_taken.b pass0M (ma_cons (mv 0) (ma_cons mx_int ma_nil))) mx_int (nomark _)) ma_nil))))
    (mss_one (ms_ret (mx_tup (ma_cons mx_str (ma_cons (mv 4) (ma_cons (mx_call (Em := noX) G__law_contract hr D__law_contract.m D__law_contract.k D__law_contract.b pass0M (ma_cons (mv 0) (ma_cons (mx_op mo_sub (mv 1) mx_int) ma_nil))) ma_nil))))))) mss_nil)
    (mss_cons (ms_if (mt_cmp (mo_eqq hr) (mv 2) mx_int (nomark _)) (mss_cons (ms_set (i := 5) nd rfl (.inl rfl) (mx_ix (mi_sub hr) (mx_lst (ma_cons (mx_op mo_plus mx_int (mx_call (Em := noX) G__law_taken hr D__law_taken.m D__law_taken.k D__law_taken.b pass0M (ma_cons (mv 0) (ma_cons mx_int ma_nil)))) (ma_cons (mx_op mo_plus mx_int (mx_call (Em := noX) G__law_taken hr D__law_taken.m D__law_taken.k D__law_taken.b pass0M (ma_cons (mv 0) (ma_cons mx_int ma_nil)))) ma_nil))) (mx_callTy mc_int1 Z.b_int (ma_cons (mx_cmp (mo_eqq hr) (mx_call (Em := noX) G__law_taken hr D__law_taken.m D__law_taken.k D__law_taken.b pass0M (ma_cons (mv 0) (ma_cons mx_int ma_nil))) mx_int (nomark _)) ma_nil))))
    (mss_one (ms_ret (mx_tup (ma_cons mx_str (ma_cons (mv 5) (ma_cons (mx_op mo_plus mx_int (mx_call (Em := noX) G__law_taken hr D__law_taken.m D__law_taken.k D__law_taken.b pass0M (ma_cons (mv 0) (ma_cons mx_int ma_nil)))) (ma_cons (mx_call (Em := noX) G__law_contract hr D__law_contract.m D__law_contract.k D__law_contract.b pass0M (ma_cons (mv 0) (ma_cons (mx_op mo_sub (mv 1) mx_int) ma_nil))) ma_nil)))))))) mss_nil)
    (mss_cons (ms_set (i := 6) nd rfl (.inl rfl) (mx_call (Em := noX) G__law_asked hr D__law_asked.m D__law_asked.k D__law_asked.b pass0M (ma_cons (mv 0) (ma_cons mx_int ma_nil))))
    (mss_cons (ms_if (mt_cmp (mo_eqq hr) (mv 2) mx_int (nomark _)) (mss_cons (ms_set (i := 3) nd rfl (.inl rfl) (mx_call (Em := noX) G__law_contract hr D__law_contract.m D__law_contract.k D__law_contract.b pass0M (ma_cons (mv 0) (ma_cons (mx_op mo_sub (mv 1) mx_int) ma_nil))))
    (mss_one (ms_ret (mx_tup (ma_cons mx_str (ma_cons (mv 6) (ma_cons (mv 3) (ma_cons (mx_call (Em := noX) G__law_contract hr D__law_contract.m D__law_contract.k D__law_contract.b pass0M (ma_cons (mv 0) (ma_cons (mx_op mo_sub (mv 1) mx_int) ma_nil))) ma_nil)))))))) mss_nil)
    (mss_one (ms_ret (mx_tup (ma_cons (mx_ix (mi_sub hr) (mx_lst (ma_cons mx_str (ma_cons mx_str ma_nil))) (mx_op mo_sub (mv 2) mx_int)) (ma_cons (mv 6) (ma_cons (mx_call (Em := noX) G__law_contract hr D__law_contract.m D__law_contract.k D__law_contract.b pass0M (ma_cons (mv 0) (ma_cons (mx_op mo_sub (mv 1) mx_int) ma_nil))) ma_nil))))))))))))))), ?_⟩
  wtm_at "go"
  refine spTaken.mkS S (by decide) (by decide) fun way s1 h0 h1 n1 S1 => ?_
  have B1 := B.nx n1
  have w1 := wordOf_nx n1
  -- how it ends
  have fin : ∀ (c : Con) (s' : Dr) (M : Mem), c.of (wordOf s) nms → c.dp ≤ dp → s.nx s' → DrS K m a nms s' M → RtM Q c.d M := fun c s' M h1 h2 n S => RtM.sub S.S (q _ s' ⟨c, h1, h2, rfl⟩ n S.J)
  clear q
  wtm_at "go"
  refine i_ite (fun c0 => ?_) (fun c0 => ?_)
  · -- deep is 0
    wtm_at "go"
    refine ⟨a, rfl, DrawTo.mkS S1 B1 ?_⟩
    rintro d s2 ⟨c, hc, hdp, rfl⟩ n2 S2
    rw [w1] at hc
    exact fin c s2 _ hc (by omega) (Dr.nx_trans n1 n2) S2
  have d0 : ¬ (dp : Int) = 0 := of_decide_eq_false c0
  have ed : (dp : Int) - 1 = ((dp - 1 : Nat) : Int) := by omega
  wtm_at "go"
  refine i_ite (fun c1 => ?_) (fun c1 => ?_)
  · wtm_at "go"
    refine ⟨a, rfl, DrawTo.mkS S1 B1 ?_⟩
    rintro d s2 ⟨c, hc, hdp, rfl⟩ n2 S2
    rw [w1] at hc
    exact fin c s2 _ hc (by omega) (Dr.nx_trans n1 n2) S2
  have g1 : ¬ way < 3 := of_decide_eq_false c1
  wtm_at "go"
  refine i_ite (fun c2 => ?_) (fun c2 => ?_)
  · wtm_at "go"
    exact fin .no s1 _ trivial (Nat.zero_le _) n1 S1
  have g2 : ¬ way = 3 := of_decide_eq_false c2
  wtm_at "go"
  refine i_ite (fun c3 => ?_) (fun c3 => ?_)
  · wtm_at "go"
    refine spCon.mkS S1 B1 ed (by omega) fun x s2 hx dx n2 S2 => ?_
    rw [w1] at hx
    have n12 := Dr.nx_trans n1 n2
    wtm_at "go"
    refine spCon.mkS S2 (B.nx n12) ed (by omega) fun y s3 hy dy n3 S3 => ?_
    rw [wordOf_nx n12] at hy
    wtm_at "go"
    exact fin (.both x y) s3 _ ⟨hx, hy⟩ (by show max x.dp y.dp + 1 ≤ dp; omega) (Dr.nx_trans n12 n3) S3
  have g3 : ¬ way < 6 := of_decide_eq_false c3
  wtm_at "go"
  refine i_ite (fun c4 => ?_) (fun c4 => ?_)
  · wtm_at "go"
    refine spSides.mkS S1 B1 fun x y s2 hxy n2 S2 => ?_
    rw [w1] at hxy
    have n12 := Dr.nx_trans n1 n2
    wtm_at "go"
    refine spCon.mkS S2 (B.nx n12) ed (by omega) fun z s3 hz dz n3 S3 => ?_
    rw [wordOf_nx n12] at hz
    wtm_at "go"
    exact fin (.turned x y z) s3 _ ⟨hxy, hz⟩ (by show z.dp + 1 ≤ dp; omega) (Dr.nx_trans n12 n3) S3
  have g4 : ¬ way = 6 := of_decide_eq_false c4
  wtm_at "go"
  refine i_ite (fun c5 => ?_) (fun c5 => ?_)
  · wtm_at "go"
    refine spTaken.mkS S1 (by decide) (by decide) fun u s2 u0 u1 n2 S2 => ?_
    wtm_at "go"
    refine spTaken.mkS S2 (by decide) (by decide) fun v s3 v0 v1 n3 S3 => ?_
    wtm_at "go"
    intro p hp
    have S4 := S3.new (o := .lst [.int u, .int v]) hp
    wtm_at "go"
    refine spTaken.mkS S4 (by decide) (by decide) fun t s4 t0 t1 n4 S5 => ?_
    wtm_at "go"
    have n14 := Dr.nx_trans n1 (Dr.nx_trans n2 (Dr.nx_trans n3 n4))
    have nap : p ≠ a := fun z => by rw [z, S3.e] at hp; cases hp
    obtain ⟨hh, eh, z0, z1⟩ : ∃ hh : Int, atI [D.int u, .int v] (if decide (t = 7) = true then 1 else 0) = some (.int hh) ∧ 0 ≤ hh ∧ hh ≤ 99 := by
      by_cases c : t = 7
      · rw [decide_eq_true c]; exact ⟨v, rfl, v0, by omega⟩
      · rw [decide_eq_false c]; exact ⟨u, rfl, u0, by omega⟩
    refine i_subL (rd_L (by rw [mput_ne nap]; exact mput_same)) eh ?_
    wtm_at "go"
    refine spCon.mkS S5 (B.nx n14) ed (by omega) fun z s5 hz dz n5 S6 => ?_
    rw [wordOf_nx n14] at hz
    wtm_at "go"
    exact fin (.later hh z) s5 _ ⟨⟨z0, z1⟩, hz⟩ (by show z.dp + 1 ≤ dp; omega) (Dr.nx_trans n14 n5) S6
  have g5 : ¬ way = 7 := of_decide_eq_false c5
  wtm_at "go"
  refine i_ite (fun c6 => ?_) (fun c6 => ?_)
  · wtm_at "go"
    refine spTaken.mkS S1 (by decide) (by decide) fun u s2 u0 u1 n2 S2 => ?_
    wtm_at "go"
    refine spTaken.mkS S2 (by decide) (by decide) fun v s3 v0 v1 n3 S3 => ?_
    wtm_at "go"
    intro p hp
    have S4 := S3.new (o := .lst [.int (1 + u), .int (1 + v)]) hp
    wtm_at "go"
    refine spTaken.mkS S4 (by decide) (by decide) fun t s4 t0 t1 n4 S5 => ?_
    wtm_at "go"
    have n14 := Dr.nx_trans n1 (Dr.nx_trans n2 (Dr.nx_trans n3 n4))
    have nap : p ≠ a := fun z => by rw [z, S3.e] at hp; cases hp
    obtain ⟨hh, eh, z0, z1⟩ : ∃ hh : Int, atI [D.int (1 + u), .int (1 + v)] (if decide (t = 7) = true then 1 else 0) = some (.int hh) ∧ 1 ≤ hh ∧ hh ≤ 9 := by
      by_cases c : t = 7
      · rw [decide_eq_true c]; exact ⟨1 + v, rfl, by omega, by omega⟩
      · rw [decide_eq_false c]; exact ⟨1 + u, rfl, by omega, by omega⟩
    refine i_subL (rd_L (by rw [mput_ne nap]; exact mput_same)) eh ?_
    wtm_at "go"
    refine spTaken.mkS S5 (by decide) (by decide) fun st s5 st0 st1 n5 S6 => ?_
    have n15 := Dr.nx_trans n14 n5
    wtm_at "go"
    refine spCon.mkS S6 (B.nx n15) ed (by omega) fun z s6 hz dz n6 S7 => ?_
    rw [wordOf_nx n15] at hz
    wtm_at "go"
    exact fin (.often hh (1 + st) z) s6 _ ⟨⟨z0, z1, by omega, by omega⟩, hz⟩ (by show z.dp + 1 ≤ dp; omega) (Dr.nx_trans n15 n6) S7
  have g6 : ¬ way = 8 := of_decide_eq_false c6
  wtm_at "go"
  refine spAsked.mkS (dp := 2) S1 rfl (by omega) fun t s2 d2 td2 o2 n2 S2 => ?_
  have n12 := Dr.nx_trans n1 n2
  wtm_at "go"
  refine i_ite (fun c7 => ?_) (fun c7 => ?_)
  · wtm_at "go"
    refine spCon.mkS S2 (B.nx n12) ed (by omega) fun x s3 hx dx n3 S3 => ?_
    rw [wordOf_nx n12] at hx
    have n13 := Dr.nx_trans n12 n3
    wtm_at "go"
    refine spCon.mkS S3 (B.nx n13) ed (by omega) fun y s4 hy dy n4 S4 => ?_
    rw [wordOf_nx n13] at hy
    wtm_at "go"
    exact fin (.ite t x y) s4 _ ⟨⟨o2, d2, td2⟩, hx, hy⟩ (by show max x.dp y.dp + 1 ≤ dp; omega) (Dr.nx_trans n13 n4) S4
  have g7 : ¬ way = 9 := of_decide_eq_false c7
  wtm_at "go"
  intro p hp
  have S3 := S2.new (o := .lst [.str (Str.ofString "when"), .str (Str.ofString "until")]) hp
  wtm_at "go"
  obtain ⟨wd, mk, hj, e1, e2, e3⟩ : ∃ (wd : Str) (mk : Asked → Con → Con), atI [D.str (Str.ofString "when"), .str (Str.ofString "until")] (way - 10) = some (.str wd) ∧ (∀ x y, (mk x y).d = .tup [.str wd, x.d, y.d]) ∧ (∀ x y, (mk x y).dp = y.dp + 1) ∧
      (∀ x y wd nms, (x.of nms ∧ x.dp ≤ 2 ∧ x.td ≤ 1) → y.of wd nms → (mk x y).of wd nms) := by
    have : way = 10 ∨ way = 11 := by omega
    rcases this with rfl | rfl
    · exact ⟨"when", .when, rfl, fun _ _ => rfl, fun _ _ => rfl, fun _ _ _ _ a b => ⟨a, b⟩⟩
    · exact ⟨"until", .till, rfl, fun _ _ => rfl, fun _ _ => rfl, fun _ _ _ _ a b => ⟨a, b⟩⟩
  refine i_subL (rd_L mput_same) hj ?_
  wtm_at "go"
  refine spCon.mkS S3 (B.nx n12) ed (by omega) fun x s4 hx dx n4 S4 => ?_
  rw [wordOf_nx n12] at hx
  wtm_at "go"
  rw [← e1]
  exact fin (mk t x) s4 _ (e3 _ _ _ _ ⟨o2, d2, td2⟩ hx) (by rw [e2]; omega) (Dr.nx_trans n12 n4) S4
theorem fin_law_contract {c : Nat} (Z : Bl mg) {f__law_taken : Addr} {fd__law_taken : FuncData} (D__law_taken : Df K mg "_law_taken" f__law_taken fd__law_taken ["_law_s", "_law_most"]) (G__law_taken : FnM P w K mg base CX0 (c) f__law_taken fd__law_taken ["_law_s", "_law_most"] (spTaken K)) {f__law_give : Addr} {fd__law_give : FuncData} (D__law_give : Df K mg "_law_give" f__law_give fd__law_give ["_law_s"]) (G__law_give : FnM P w K mg base CX0 (c) f__law_give fd__law_give ["_law_s"] (spGive K)) {f__law_sides : Addr} {fd__law_sides : FuncData} (D__law_sides : Df K mg "_law_sides" f__law_sides fd__law_sides ["_law_s"]) (G__law_sides : FnM P w K mg base CX0 (c) f__law_sides fd__law_sides ["_law_s"] (spSides K)) {f__law_asked : Addr} {fd__law_asked : FuncData} (D__law_asked : Df K mg "_law_asked" f__law_asked fd__law_asked ["_law_s", "_law_deep"]) (G__law_asked : FnM P w K mg base CX0 (c) f__law_asked fd__law_asked ["_law_s", "_law_deep"] (spAsked K 3)) {f__law_contract : Addr} {fd__law_contract : FuncData} (D__law_contract : Df K mg "_law_contract" f__law_contract fd__law_contract ["_law_s", "_law_deep"]) (F : Fun K "_law_contract" "_law_contract" s__law_contract f__law_contract fd__law_contract) : ∀ n, FnM P w K mg base CX0 (c + n) f__law_contract fd__law_contract ["_law_s", "_law_deep"] (spCon K n)
  | 0 => fn_none fun ds m Q E ⟨a, dp, _, h, _⟩ => by omega
  | n + 1 => ok_law_contract Z D__law_taken (G__law_taken.mono (Nat.le_add_right c n)) D__law_give (G__law_give.mono (Nat.le_add_right c n)) D__law_sides (G__law_sides.mono (Nat.le_add_right c n)) D__law_asked (G__law_asked.mono (Nat.le_add_right c n)) D__law_contract (fin_law_contract Z D__law_taken G__law_taken D__law_give G__law_give D__law_sides G__law_sides D__law_asked G__law_asked D__law_contract F n) F

/-- as it was: its words and its script -/
def Dr.sw (s s' : Dr) : Prop := s'.sc = s.sc ∧ s'.size = s.size ∧ s'.place = s.place ∧ s'.turn = s.turn ∧ s'.talk = s.talk
theorem Dr.nx.sw {s s' : Dr} (n : s.nx s') : s.sw s' := ⟨n.1, n.2.2.1, n.2.2.2.1, n.2.2.2.2.1, n.2.2.2.2.2⟩
theorem Dr.sw_trans {s s' s2 : Dr} (a : s.sw s') (b : s'.sw s2) : s.sw s2 := by
  obtain ⟨a1, a2, a3, a4, a5⟩ := a
  obtain ⟨b1, b2, b3, b4, b5⟩ := b
  exact ⟨b1.trans a1, b2.trans a2, b3.trans a3, b4.trans a4, b5.trans a5⟩
theorem wordOf_sw {s s' : Dr} (n : s.sw s') : wordOf s' = wordOf s := by
  obtain ⟨_, h1, h2, h3, h4⟩ := n
  funext k
  unfold wordOf
  rw [h1, h2, h3, h4]
theorem DrB.sw {s s' : Dr} (b : DrB s) (n : s.sw s') : DrB s' := by
  obtain ⟨_, h1, h2, h3, h4⟩ := n
  obtain ⟨b1, b2, b3, b4, b5, b6, b7⟩ := b
  exact ⟨by omega, by omega, by omega, by omega, by omega, by omega, by omega⟩
def namesOf (s : Dr) (n : Nat) : List Str := (List.range n).map fun j : Nat => wordOf s (8 + (j : Int))
/-- words round a give, as they are drawn -/
def Con.ch : Con → Prop
  | .give _ _ _ t => t.dp ≤ 1
  | .turned _ _ x => x.ch
  | .later _ x => x.ch
  | .often n _ x => n ≤ 3 ∧ x.ch
  | .when q x => q.dp = 0 ∧ x.ch
  | .till q x => q.dp = 0 ∧ x.ch
  | _ => False
def Con.dw (c : Con) : Prop := c.dp ≤ 3 ∨ (c.dp ≤ 5 ∧ c.ch)
theorem Con.dw.dp {c : Con} (h : c.dw) : c.dp ≤ 5 := by rcases h with h | h <;> omega
def spDrawn (K : PySem.W.Frag) : SpM := fun ds m Q _ => ∃ (a : Addr) (s : Dr) (many : Nat), ds = [.ref a, .int many] ∧ many ≤ 4 ∧ DrI K m a s ∧ DrB s ∧
  ∀ (c : Con) s' m', c.of (wordOf s) (namesOf s many) → c.dw → s.sw s' → DrI K m' a s' → DrN m' s' (namesOf s many) → Kp a m m' → Q c.d m'
abbrev s__law_drawn : Stmt := topS 31
theorem sc__law_drawn : FnScope ["_law_s", "_law_many", "_law_k", "_law_contract_here", "_law_way"] ["_law_s", "_law_many"] (defScope s__law_drawn) := ⟨rfl, rfl, rfl, by decide +kernel, rfl, by decide +kernel, by decide +kernel⟩
theorem ok_law_drawn {k : Nat} (Z : Bl mg) {f__law_taken : Addr} {fd__law_taken : FuncData} (D__law_taken : Df K mg "_law_taken" f__law_taken fd__law_taken ["_law_s", "_law_most"]) (G__law_taken : FnM P w K mg base CX0 (k) f__law_taken fd__law_taken ["_law_s", "_law_most"] (spTaken K)) {f__law_word : Addr} {fd__law_word : FuncData} (D__law_word : Df K mg "_law_word" f__law_word fd__law_word ["_law_s", "_law_k"]) (G__law_word : FnM P w K mg base CX0 (k) f__law_word fd__law_word ["_law_s", "_law_k"] (spWord K)) {f__law_sides : Addr} {fd__law_sides : FuncData} (D__law_sides : Df K mg "_law_sides" f__law_sides fd__law_sides ["_law_s"]) (G__law_sides : FnM P w K mg base CX0 (k) f__law_sides fd__law_sides ["_law_s"] (spSides K)) {f__law_good : Addr} {fd__law_good : FuncData} (D__law_good : Df K mg "_law_good" f__law_good fd__law_good ["_law_s"]) (G__law_good : FnM P w K mg base CX0 (k) f__law_good fd__law_good ["_law_s"] (spGood K)) {f__law_told : Addr} {fd__law_told : FuncData} (D__law_told : Df K mg "_law_told" f__law_told fd__law_told ["_law_s", "_law_deep"]) (G__law_told : FnM P w K mg base CX0 (k) f__law_told fd__law_told ["_law_s", "_law_deep"] (spTold K 2)) {f__law_asked : Addr} {fd__law_asked : FuncData} (D__law_asked : Df K mg "_law_asked" f__law_asked fd__law_asked ["_law_s", "_law_deep"]) (G__law_asked : FnM P w K mg base CX0 (k) f__law_asked fd__law_asked ["_law_s", "_law_deep"] (spAsked K 1)) {f__law_contract : Addr} {fd__law_contract : FuncData} (D__law_contract : Df K mg "_law_contract" f__law_contract fd__law_contract ["_law_s", "_law_deep"]) (G__law_contract : FnM P w K mg base CX0 (k) f__law_contract fd__law_contract ["_law_s", "_law_deep"] (spCon K 4)) {f__law_drawn : Addr} {fd__law_drawn : FuncData} (F : Fun K "_law_drawn" "_law_drawn" s__law_drawn f__law_drawn fd__law_drawn) : FnM P w K mg base CX0 (k + 1) f__law_drawn fd__law_drawn ["_law_s", "_law_many"] (spDrawn K) := by
  refine fn_m F sc__law_drawn (fun ds m Q E h => ?_) (fun cdv A outer s H ds m Q E E' hr h => ?_)
  · obtain ⟨a, s, many, rfl, _⟩ := h; rfl
  have nd := sc__law_drawn.nd
  obtain ⟨a, s, many, rfl, hmany, I, B, q⟩ := h
  refine ⟨_, (mss_cons (ms_dput (hu1 hr) (mv 0) mx_str (mx_lc (own := [("_law_k", 2)]) rfl nd (mi_range1 Z.b_range (ma_cons (mv 1) ma_nil)) (blkOk_by (by show blkC ["_law_s", "_law_many", "_law_k", "_law_contract_here", "_law_way"] (defScope s__law_drawn) _ _ = true; decide +kernel)) (fun _ _ _ _ _ => (pg_name (i := 2) nd rfl (Or.inl rfl))) (gok_name (i := 2) (by decide)) (fun _ _ _ _ _ => mts_nil) (fun _ _ _ _ _ => (mx_call (Em := noX) G__law_word hr D__law_word.m D__law_word.k D__law_word.b pass0M (ma_cons (mv 0) (ma_cons (mx_op mo_plus mx_int (mv 2)) ma_nil))))))
    (mss_cons (ms_if (mt_cmp mo_lt (mx_call (Em := noX) G__law_taken hr D__law_taken.m D__law_taken.k D__law_taken.b pass0M (ma_cons (mv 0) (ma_cons mx_int ma_nil))) mx_int (nomark _)) (mss_one (ms_ret (mx_call (Em := noX) G__law_contract hr D__law_contract.m D__law_contract.k D__law_contract.b pass0M (ma_cons (mv 0) (ma_cons mx_int ma_nil))))) mss_nil)
    (mss_cons (ms_set (i := 3) nd rfl (.inl rfl) (mx_op mo_plus (mx_op mo_plus (mx_tup (ma_cons mx_str ma_nil)) (mx_call (Em := noX) G__law_sides hr D__law_sides.m D__law_sides.k D__law_sides.b pass0M (ma_cons (mv 0) ma_nil))) (mx_tup (ma_cons (mx_call (Em := noX) G__law_good hr D__law_good.m D__law_good.k D__law_good.b pass0M (ma_cons (mv 0) ma_nil)) (ma_cons (mx_call (Em := noX) G__law_told hr D__law_told.m D__law_told.k D__law_told.b pass0M (ma_cons (mv 0) (ma_cons mx_int ma_nil))) ma_nil)))))
    (mss_cons (ms_for PassesOwn.never rfl (mi_range1 Z.b_range (ma_cons mx_int ma_nil)) (mg_name (i := 2) nd rfl (.inl rfl)) (mss_cons (ms_set (i := 4) nd rfl (.inl rfl) (mx_call (Em := noX) G__law_taken hr D__law_taken.m D__law_taken.k D__law_taken.b pass0M (ma_cons (mv 0) (ma_cons mx_int ma_nil))))
    (mss_one (ms_if (mt_cmp (mo_eqq hr) (mv 4) mx_int (nomark _)) (mss_one (ms_set (i := 3) nd rfl (.inl rfl) (mx_tup (ma_cons mx_str (ma_cons (mx_call (Em := noX) G__law_taken hr D__law_taken.m D__law_taken.k D__law_taken.b pass0M (ma_cons (mv 0) (ma_cons mx_int ma_nil))) (ma_cons (mv 3) ma_nil)))))) (mss_one (ms_if (mt_cmp (mo_eqq hr) (mv 4) mx_int (nomark _)) (mss_one (ms_set (i := 3) nd rfl (.inl rfl) (mx_op mo_plus (mx_op mo_plus (mx_tup (ma_cons mx_str ma_nil)) (mx_call (Em := noX) G__law_sides hr D__law_sides.m D__law_sides.k D__law_sides.b pass0M (ma_cons (mv 0) ma_nil))) (mx_tup (ma_cons (mv 3) ma_nil))))) (mss_one (ms_if (mt_cmp (mo_eqq hr) (mv 4) mx_int (nomark _)) (mss_one (ms_set (i := 3) nd rfl (.inl rfl) (mx_tup (ma_cons mx_str (ma_cons (mx_op mo_plus mx_int (mx_call (Em := noX) G__law_taken hr D__law_taken.m D__law_taken.k D__law_taken.b pass0M (ma_cons (mv 0) (ma_cons mx_int ma_nil)))) (ma_cons (mx_op mo_plus mx_int (mx_call (Em := noX) G__law_taken hr D__law_taken.m D__law_taken.k D__law_taken.b pass0M (ma_cons (mv 0) (ma_cons mx_int ma_nil)))) (ma_cons (mv 3) ma_nil))))))) (mss_one (ms_set (i := 3) nd rfl (.inl rfl) (mx_tup (ma_cons (mx_ix (mi_sub hr) (mx_lst (ma_cons mx_str (ma_cons mx_str ma_nil))) (mx_op mo_sub (mv 4) mx_int)) (ma_cons (mx_call (Em := noX) G__law_asked hr D__law_asked.m D__law_asked.k D__law_asked.b pass0M (ma_cons (mv 0) (ma_cons mx_int ma_nil))) (ma_cons (mv 3) ma_nil))))))))))))))
    (mss_one (ms_ret (mv 3))))))), ?_⟩
  wtm_at "go"
  refine ⟨by omega, by omega, ?_⟩
  have Ir := I.rd
  refine lcC_pure (fun d => match d with | .int j => .str (wordOf s (8 + j)) | _ => .non) (by rw [rangeD_len]; exact sl (by omega)) trivial ?_ ?_
  · intro d hd R hR
    obtain ⟨j, hj, rfl⟩ := rangeD_mem hd
    refine ⟨rfl, ?_⟩
    wtm_at "go"
    exact ⟨a, s, _, rfl, Ir, B, by omega, hR⟩
  intro p hp
  have ew : (rangeD 0 (many : Int).toNat).map (fun d => match d with | .int j => D.str (wordOf s (8 + j)) | _ => .non) = (namesOf s many).map D.str := by
    unfold rangeD namesOf
    rw [List.map_map, List.map_map, show ((many : Int)).toNat = many by omega]
    apply List.map_congr_left
    intro j _
    show D.str (wordOf s (8 + (0 + (j : Int)))) = D.str (wordOf s (8 + (j : Int)))
    rw [Int.zero_add]
  rw [ew]
  have hnl : (namesOf s many).length ≤ 20 := by unfold namesOf; rw [List.length_map, List.length_range]; omega
  generalize hnm : namesOf s many = nms at hnl q
  wtm_at "go"
  refine i_putK (mput_new hp I.e) Dr.len ?_
  rw [Dr.p_names]
  have nap : p ≠ a := fun z => by rw [z, I.e] at hp; cases hp
  have I2 := (I.new (o := .lst (nms.map D.str)) hp).put (s' := { s with nm := p }) rfl I.at0 I.rest0 I.mix0 I.mix1
  have N2 : DrN (mput (mput m p (.lst (nms.map D.str))) a (Dr.o { s with nm := p })) { s with nm := p } nms := ⟨rd_L (by rw [mput_ne nap, mput_same]), hnl⟩
  have sw2 : s.sw { s with nm := p } := ⟨rfl, rfl, rfl, rfl, rfl⟩
  generalize hs2 : ({ s with nm := p } : Dr) = s2 at I2 N2 sw2 ⊢
  have kp2 : Kp a m (mput (mput m p (.lst (nms.map D.str))) a s2.o) := (Kp.refl.new hp).trans Kp.put
  generalize hM2 : mput (mput m p (.lst (nms.map D.str))) a s2.o = M2 at I2 N2 kp2 ⊢
  have S := DrS.start I2 N2
  have B2 := B.sw sw2
  have w2 := wordOf_sw sw2
  have fin : ∀ (c : Con) (s' : Dr) (M : Mem), c.of (wordOf s) nms → c.dw → s2.nx s' → DrS K M2 a nms s' M → RtM Q c.d M := fun c s' M h1 h2 n S =>
    RtM.sub S.S (q c s' _ h1 h2 (Dr.sw_trans sw2 n.sw) S.J (N2.put I2 n) (kp2.trans Kp.put))
  clear q hM2 hs2
  wtm_at "go"
  refine spTaken.mkS S (by decide) (by decide) fun way s3 h0 h1 n3 S3 => ?_
  have B3 := B2.nx n3
  have w3 : wordOf s3 = wordOf s := (wordOf_nx n3).trans w2
  wtm_at "go"
  refine i_ite (fun c0 => ?_) (fun c0 => ?_)
  · wtm_at "go"
    refine spCon.mkS (dp := 3) S3 B3 rfl (by omega) fun x s4 hx dx n4 S4 => ?_
    rw [w3] at hx
    exact fin x s4 _ hx (.inl (by omega)) (Dr.nx_trans n3 n4) S4
  wtm_at "go"
  refine spSides.mkS S3 B3 fun x y s4 hxy n4 S4 => ?_
  rw [w3] at hxy
  have n34 := Dr.nx_trans n3 n4
  wtm_at "go"
  refine spGood.mkS S4 (B2.nx n34) fun g s5 hg n5 S5 => ?_
  rw [(wordOf_nx n34).trans w2] at hg
  have n35 := Dr.nx_trans n34 n5
  wtm_at "go"
  refine spTold.mkS (dp := 1) S5 rfl (by omega) fun t s6 td tof n6 S6 => ?_
  have n36 := Dr.nx_trans n35 n6
  wtm_at "go"
  refine ⟨by decide, by decide, ?_⟩
  refine forC_ind (fun r ρ M => ∃ (c : Con) (s7 : Dr) (x4 x5 : Option D), (r.length + c.dp ≤ 5 ∧ c.ch) ∧ ρ = [some (.ref a), some (.int many), x4, some c.d, x5] ∧ c.of (wordOf s) nms ∧ s2.nx s7 ∧ DrS K M2 a nms s7 M)
    ⟨.give x y g t, s6, _, _, ⟨Nat.le_refl 5, td⟩, rfl, ⟨hxy, hg, tof, by omega⟩, n36, S6⟩ ?_ ?_
  · rintro ρ M ⟨c, s7, x4, x5, ⟨hl, hch⟩, rfl, hc, n7, S7⟩
    refine ⟨trivial, ?_⟩
    wtm_at "go"
    exact fin c s7 _ hc (.inr ⟨by simpa using hl, hch⟩) n7 S7
  · rintro d r ρ M L hK ⟨c, s7, x4, x5, ⟨hl, hch⟩, rfl, hc, n7, S7⟩
    simp only [List.length_cons] at hl
    refine ⟨trivial, ?_⟩
    wtm_at "go"
    refine spTaken.mkS S7 (by decide) (by decide) fun v s8 v0 v1 n8 S8 => ?_
    have n78 := Dr.nx_trans n7 n8
    have B8 := B2.nx n78
    have w8 : wordOf s8 = wordOf s := (wordOf_nx n78).trans w2
    wtm_at "go"
    refine i_ite (fun c1 => ?_) (fun c1 => ?_)
    · wtm_at "go"
      refine spTaken.mkS S8 (by decide) (by decide) fun u s9 u0 u1 n9 S9 => ?_
      wtm_at "go"
      exact hK _ _ ⟨.later u c, s9, _, _, ⟨by show _ + (c.dp + 1) ≤ 5; omega, hch⟩, rfl, ⟨⟨u0, by omega⟩, hc⟩, Dr.nx_trans n78 n9, S9⟩
    have g1 : ¬ v = 0 := of_decide_eq_false c1
    wtm_at "go"
    refine i_ite (fun c2 => ?_) (fun c2 => ?_)
    · wtm_at "go"
      refine spSides.mkS S8 B8 fun x y s9 hxy n9 S9 => ?_
      rw [w8] at hxy
      wtm_at "go"
      exact hK _ _ ⟨.turned x y c, s9, _, _, ⟨by show _ + (c.dp + 1) ≤ 5; omega, hch⟩, rfl, ⟨hxy, hc⟩, Dr.nx_trans n78 n9, S9⟩
    have g2 : ¬ v = 1 := of_decide_eq_false c2
    wtm_at "go"
    refine i_ite (fun c3 => ?_) (fun c3 => ?_)
    · wtm_at "go"
      refine spTaken.mkS S8 (by decide) (by decide) fun u s9 u0 u1 n9 S9 => ?_
      wtm_at "go"
      refine spTaken.mkS S9 (by decide) (by decide) fun u' s10 u0' u1' n10 S10 => ?_
      wtm_at "go"
      exact hK _ _ ⟨.often (1 + u) (1 + u') c, s10, _, _, ⟨by show _ + (c.dp + 1) ≤ 5; omega, by omega, hch⟩, rfl, ⟨⟨by omega, by omega, by omega, by omega⟩, hc⟩, Dr.nx_trans n78 (Dr.nx_trans n9 n10), S10⟩
    have g3 : ¬ v = 2 := of_decide_eq_false c3
    wtm_at "go"
    intro p2 hp2
    have S9 := S8.new (o := .lst [.str (Str.ofString "when"), .str (Str.ofString "until")]) hp2
    wtm_at "go"
    obtain ⟨wd, mk, hj, e1, e2, e3, e4⟩ : ∃ (wd : Str) (mk : Asked → Con → Con), atI [D.str (Str.ofString "when"), .str (Str.ofString "until")] (v - 3) = some (.str wd) ∧ (∀ x y, (mk x y).d = .tup [.str wd, x.d, y.d]) ∧ (∀ x y, (mk x y).dp = y.dp + 1) ∧
        (∀ x y wd nms, (x.of nms ∧ x.dp ≤ 2 ∧ x.td ≤ 1) → y.of wd nms → (mk x y).of wd nms) ∧ (∀ x y, x.dp = 0 → y.ch → (mk x y).ch) := by
      have : v = 3 ∨ v = 4 := by omega
      rcases this with rfl | rfl
      · exact ⟨"when", .when, rfl, fun _ _ => rfl, fun _ _ => rfl, fun _ _ _ _ a b => ⟨a, b⟩, fun _ _ a b => ⟨a, b⟩⟩
      · exact ⟨"until", .till, rfl, fun _ _ => rfl, fun _ _ => rfl, fun _ _ _ _ a b => ⟨a, b⟩, fun _ _ a b => ⟨a, b⟩⟩
    refine i_subL (rd_L mput_same) hj ?_
    wtm_at "go"
    refine spAsked.mkS (dp := 0) S9 rfl (by omega) fun t2 s10 d2 td2 o2 n10 S10 => ?_
    wtm_at "go"
    rw [← e1]
    exact hK _ _ ⟨mk t2 c, s10, _, _, ⟨by rw [e2]; omega, e4 _ _ (by omega) hch⟩, rfl, e3 _ _ _ _ ⟨o2, by omega, td2⟩ hc, Dr.nx_trans n78 n10, S10⟩

/-! ### words, sign by sign -/
theorem foldl_cps {x : Array Nat} : ∀ (k : Nat) (acc : Array Nat), ((List.replicate k x).foldl (· ++ ·) acc).toList = acc.toList ++ (List.replicate k x.toList).flatten
  | 0, acc => by simp
  | k + 1, acc => by rw [List.replicate_succ, List.foldl_cons, foldl_cps k, List.replicate_succ, List.flatten_cons, Array.toList_append, List.append_assoc]
theorem q_cps : (Str.ofString "q").cps = #[113] := by decide +kernel
theorem mul_q {n : Int} (h : 0 ≤ n) : (Txt.mul "q" n).cps.toList = List.replicate n.toNat 113 := by
  unfold Txt.mul
  split
  · have : n = 0 := by omega
    subst this; rfl
  · split
    · rename_i h2
      have h3 : n = 1 := by
        have : (Str.ofString "q").length = 1 := by decide +kernel
        rw [this] at h2
        simpa using h2
      subst h3
      rw [q_cps]; rfl
    · rw [foldl_cps, q_cps]
      have : ∀ k : Nat, (List.replicate k [113]).flatten = List.replicate k 113 := by
        intro k
        induction k with
        | zero => rfl
        | succ k ih => rw [List.replicate_succ, List.flatten_cons, ih, List.replicate_succ]; rfl
      simp [this]
theorem app_cps {a b : Str} : (a ++ b).cps.toList = a.cps.toList ++ b.cps.toList := by
  show (a.cps ++ b.cps).toList = _
  rw [Array.toList_append]
theorem strOk_iff {x : Str} : PyData.strOk x = true ↔ ∀ c ∈ x.cps.toList, c < 0x110000 := by
  unfold PyData.strOk
  rw [← Array.all_toList, List.all_eq_true]
  simp only [decide_eq_true_eq]
theorem word_cps {s : Dr} (B : DrB s) {k : Int} (h : ¬ (s.talk = 1 ∧ k < 12)) : (wordOf s k).cps.toList = List.replicate s.place.toNat 113 ++ (97 + (k + s.turn) % 26).toNat :: List.replicate (s.size - s.place - 1).toNat 113 := by
  unfold wordOf
  have h1 := B.p0
  have h2 := B.p1
  rw [if_neg h, app_cps, app_cps, mul_q h1, mul_q (by omega)]
  show _ ++ [(97 + (k + s.turn) % 26).toNat] ++ _ = _
  rw [List.append_assoc]; rfl
theorem talk_ok : ∀ x ∈ talkWords, PyData.strOk x = true := by decide +kernel
theorem wordOf_ok {s : Dr} (B : DrB s) {k : Int} : PyData.strOk (wordOf s k) = true := by
  by_cases h : s.talk = 1 ∧ k < 12
  · unfold wordOf
    rw [if_pos h]
    cases e : talkWords[k.toNat]? with
    | none => show PyData.strOk "" = true; decide +kernel
    | some x => exact talk_ok x (List.mem_of_getElem? e)
  · rw [strOk_iff, word_cps B h]
    intro c hc
    have h1 : (k + s.turn) % 26 < 26 := Int.emod_lt_of_pos _ (by decide)
    have h2 : 0 ≤ (k + s.turn) % 26 := Int.emod_nonneg _ (by decide)
    rcases List.mem_append.mp hc with hc | hc
    · have := List.eq_of_mem_replicate hc; omega
    · rcases List.mem_cons.mp hc with hc | hc
      · omega
      · have := List.eq_of_mem_replicate hc; omega
theorem talk_nd : talkWords.Nodup := by decide +kernel
theorem wordOf_inj {s : Dr} (B : DrB s) {i j : Int} (i0 : 0 ≤ i) (i1 : i < 12) (j0 : 0 ≤ j) (j1 : j < 12) (e : wordOf s i = wordOf s j) : i = j := by
  by_cases h : s.talk = 1
  · unfold wordOf at e
    rw [if_pos ⟨h, i1⟩, if_pos ⟨h, j1⟩] at e
    have l : talkWords.length = 12 := rfl
    have hi : i.toNat < talkWords.length := by omega
    have hj : j.toNat < talkWords.length := by omega
    rw [List.getElem?_eq_getElem hi, List.getElem?_eq_getElem hj] at e
    have := (List.getElem_inj talk_nd (i := i.toNat) (j := j.toNat) (h₀ := hi) (h₁ := hj)).mp e
    omega
  · have e2 := congrArg (fun x : Str => x.cps.toList) e
    rw [word_cps B (fun z => h z.1), word_cps B (fun z => h z.1)] at e2
    have e3 := List.append_cancel_left e2
    have e4 := (List.cons.inj e3).1
    have h1 : (i + s.turn) % 26 < 26 := Int.emod_lt_of_pos _ (by decide)
    have h2 : 0 ≤ (i + s.turn) % 26 := Int.emod_nonneg _ (by decide)
    have h3 : (j + s.turn) % 26 < 26 := Int.emod_lt_of_pos _ (by decide)
    have h4 : 0 ≤ (j + s.turn) % 26 := Int.emod_nonneg _ (by decide)
    have e5 : (i + s.turn) % 26 = (j + s.turn) % 26 := by omega
    omega
theorem word_len {s : Dr} (B : DrB s) {k : Int} : (wordOf s k).length ≤ 10 := by
  by_cases h : s.talk = 1 ∧ k < 12
  · unfold wordOf
    rw [if_pos h]
    cases e : talkWords[k.toNat]? with
    | none => show (Str.ofString "").length ≤ 10; decide +kernel
    | some x =>
      have h2 : ∀ x ∈ talkWords, x.length ≤ 10 := by decide +kernel
      exact h2 x (List.mem_of_getElem? e)
  · have : (wordOf s k).length = (wordOf s k).cps.toList.length := by rw [Array.length_toList]; rfl
    rw [this, word_cps B h]
    have h1 := B.p0
    have h2 := B.p1
    have h3 := B.z1
    simp
    omega

/-! ### tables of numbers under tuples -/
abbrev Tb (κ : Type) := List (κ × Int)
section
variable {κ : Type} [DecidableEq κ]
def Tb.fd (f : Tb κ) (k : κ) : Option Int := (f.find? fun p => decide (p.1 = k)).map (·.2)
def Tb.at_ (f : Tb κ) (k : κ) : Int := (f.fd k).getD 0
def Tb.put (f : Tb κ) (k : κ) (n : Int) : Tb κ := if (f.any fun p => decide (p.1 = k)) = true then f.map fun p => if p.1 = k then (p.1, n) else p else f ++ [(k, n)]
def Tb.ks (f : Tb κ) : List κ := f.map (·.1)
def Tb.kvs (enc : κ → List Key) (f : Tb κ) : List (List Key × D) := f.map fun p => (enc p.1, .int p.2)
abbrev Tb.o (enc : κ → List Key) (f : Tb κ) : O := .dT (f.kvs enc)
theorem Tb.fd_cons {p : κ × Int} {f : Tb κ} {k : κ} : Tb.fd (p :: f) k = if p.1 = k then some p.2 else Tb.fd f k := by
  unfold Tb.fd
  rw [List.find?_cons]
  by_cases c : p.1 = k
  · simp [c]
  · simp [c]
theorem Tb.val {enc : κ → List Key} (inj : ∀ a b, enc a = enc b → a = b) {f : Tb κ} {k : κ} : valD (f.kvs enc) (enc k) = (f.fd k).map D.int := by
  induction f with
  | nil => rfl
  | cons p f ih =>
    rw [Tb.fd_cons]
    show valD ((enc p.1, .int p.2) :: Tb.kvs enc f) (enc k) = _
    unfold valD
    rw [List.find?_cons]
    by_cases c : p.1 = k
    · subst c; simp
    · have : ¬ enc p.1 = enc k := fun z => c (inj _ _ z)
      rw [if_neg c, ← ih]
      simp [this, valD]
theorem Tb.getD {enc : κ → List Key} (inj : ∀ a b, enc a = enc b → a = b) {f : Tb κ} {k : κ} : (valD (f.kvs enc) (enc k)).getD (.int 0) = .int (f.at_ k) := by
  rw [Tb.val inj]
  unfold Tb.at_
  cases f.fd k <;> rfl
theorem Tb.put_kvs {enc : κ → List Key} (inj : ∀ a b, enc a = enc b → a = b) {f : Tb κ} {k : κ} {n : Int} : putD (f.kvs enc) (enc k) (.int n) = (f.put k n).kvs enc := by
  unfold putD Tb.put Tb.kvs
  have e : ((f.map fun p => (enc p.1, D.int p.2)).any fun kv => decide (kv.1 = enc k)) = f.any fun p => decide (p.1 = k) := by
    rw [List.any_map]; congr 1; funext p
    show decide (enc p.1 = enc k) = decide (p.1 = k)
    rw [decide_eq_decide]
    exact ⟨fun z => inj _ _ z, fun z => by rw [z]⟩
  rw [e]
  split
  · rw [List.map_map, List.map_map]
    apply List.map_congr_left
    intro p _
    show (if enc p.1 = enc k then (enc p.1, D.int n) else (enc p.1, D.int p.2)) = (enc (if p.1 = k then (p.1, n) else p).1, D.int (if p.1 = k then (p.1, n) else p).2)
    by_cases c : p.1 = k
    · rw [if_pos c, if_pos (by rw [c])]
    · rw [if_neg c, if_neg (fun z => c (inj _ _ z))]
  · rw [List.map_append]; rfl
theorem Tb.any_ks {f : Tb κ} {k : κ} : (f.any fun p => decide (p.1 = k)) = true ↔ k ∈ f.ks := by
  unfold Tb.ks
  simp only [List.any_eq_true, decide_eq_true_eq, List.mem_map]
theorem Tb.put_ks {f : Tb κ} {k : κ} {n : Int} : (f.put k n).ks = if k ∈ f.ks then f.ks else f.ks ++ [k] := by
  unfold Tb.put
  by_cases c : k ∈ f.ks
  · rw [if_pos (Tb.any_ks.mpr c), if_pos c]
    unfold Tb.ks
    rw [List.map_map]
    apply List.map_congr_left
    intro p _
    show (if p.1 = k then (p.1, n) else p).1 = p.1
    split <;> rfl
  · rw [if_neg (fun z => c (Tb.any_ks.mp z)), if_neg c]
    unfold Tb.ks
    rw [List.map_append]; rfl
theorem Tb.put_mem {f : Tb κ} {k j : κ} {n : Int} : j ∈ (f.put k n).ks ↔ j ∈ f.ks ∨ j = k := by
  rw [Tb.put_ks]
  split
  · rename_i c
    exact ⟨.inl, fun h => h.elim id fun e => e ▸ c⟩
  · rw [List.mem_append, List.mem_singleton]
theorem Tb.put_nd {f : Tb κ} {k : κ} {n : Int} (h : f.ks.Nodup) : (f.put k n).ks.Nodup := by
  rw [Tb.put_ks]
  split
  · exact h
  · rename_i c
    rw [List.nodup_append]
    refine ⟨h, by simp, fun a ha b hb => ?_⟩
    simp only [List.mem_singleton] at hb
    subst hb; rintro rfl; exact c ha
theorem Tb.fd_append {f g : Tb κ} {k : κ} : Tb.fd (f ++ g) k = (f.fd k).or (g.fd k) := by
  induction f with
  | nil => rfl
  | cons p f ih =>
    rw [List.cons_append, Tb.fd_cons, Tb.fd_cons, ih]
    split <;> simp
theorem Tb.fd_none {f : Tb κ} {k : κ} (h : k ∉ f.ks) : f.fd k = none := by
  induction f with
  | nil => rfl
  | cons p f ih =>
    rw [Tb.fd_cons]
    have : ¬ p.1 = k ∧ k ∉ Tb.ks f := by
      unfold Tb.ks at h ⊢
      rw [List.map_cons, List.mem_cons, not_or] at h
      exact ⟨fun z => h.1 z.symm, h.2⟩
    rw [if_neg this.1, ih this.2]
theorem Tb.at_put {f : Tb κ} {k j : κ} {n : Int} : (f.put k n).at_ j = if j = k then n else f.at_ j := by
  unfold Tb.put Tb.at_
  by_cases c : k ∈ f.ks
  · rw [if_pos (Tb.any_ks.mpr c)]
    induction f with
    | nil => cases c
    | cons p f ih =>
      rw [List.map_cons, Tb.fd_cons, Tb.fd_cons]
      by_cases e : p.1 = k
      · rw [if_pos e]
        by_cases e2 : j = k
        · subst e2; rw [if_pos e, if_pos rfl]; rfl
        · have : ¬ p.1 = j := fun z => e2 (z.symm.trans e)
          rw [if_neg this, if_neg e2, if_neg this]
          by_cases c2 : k ∈ Tb.ks f
          · rw [ih c2, if_neg e2]
          · congr 1
            congr 1
            clear ih c
            induction f with
            | nil => rfl
            | cons q f ih2 =>
              have : ¬ q.1 = k ∧ k ∉ Tb.ks f := by
                unfold Tb.ks at c2 ⊢
                rw [List.map_cons, List.mem_cons, not_or] at c2
                exact ⟨fun z => c2.1 z.symm, c2.2⟩
              rw [List.map_cons, if_neg this.1, ih2 this.2]
      · rw [if_neg e]
        have c2 : k ∈ Tb.ks f := by
          unfold Tb.ks at c ⊢
          rw [List.map_cons, List.mem_cons] at c
          exact c.resolve_left fun z => e z.symm
        by_cases e2 : p.1 = j
        · rw [if_pos e2, if_pos e2, if_neg (fun z => e (e2.trans z))]
        · rw [if_neg e2, if_neg e2]; exact ih c2
  · rw [if_neg (fun z => c (Tb.any_ks.mp z)), Tb.fd_append]
    by_cases e : j = k
    · subst e
      rw [Tb.fd_none c, if_pos rfl, Tb.fd_cons, if_pos rfl]; rfl
    · rw [if_neg e, Tb.fd_cons, if_neg (fun z => e z.symm)]
      cases f.fd j <;> rfl
theorem Tb.fd_mem {f : Tb κ} (nd : f.ks.Nodup) {p : κ × Int} (h : p ∈ f) : f.fd p.1 = some p.2 := by
  induction f with
  | nil => cases h
  | cons q f ih =>
    rw [Tb.fd_cons]
    have nd' : q.1 ∉ Tb.ks f ∧ (Tb.ks f).Nodup := List.nodup_cons.mp nd
    rcases List.mem_cons.mp h with rfl | h
    · rw [if_pos rfl]
    · have : ¬ q.1 = p.1 := fun z => nd'.1 (z ▸ List.mem_map_of_mem h)
      rw [if_neg this]; exact ih nd'.2 h
theorem Tb.mem_fd {f : Tb κ} {k : κ} {n : Int} (h : f.fd k = some n) : (k, n) ∈ f := by
  induction f with
  | nil => cases h
  | cons q f ih =>
    rw [Tb.fd_cons] at h
    split at h
    · rename_i e
      cases h
      rw [← e]; exact List.mem_cons_self
    · exact List.mem_cons_of_mem _ (ih h)
end
theorem nd_len {α : Type} [DecidableEq α] : ∀ {l L : List α}, l.Nodup → (∀ x ∈ l, x ∈ L) → l.length ≤ L.length
  | [], _, _, _ => Nat.zero_le _
  | x :: l, L, nd, h => by
    have nd' := List.nodup_cons.mp nd
    have h1 : ∀ y ∈ l, y ∈ L.erase x := fun y hy => by
      have : y ≠ x := by rintro rfl; exact nd'.1 hy
      exact (List.mem_erase_of_ne this).mpr (h y (List.mem_cons_of_mem _ hy))
    have h2 := nd_len nd'.2 h1
    have h3 := List.length_erase_of_mem (h x List.mem_cons_self)
    have h4 : 0 < L.length := List.length_pos_of_mem (h x List.mem_cons_self)
    rw [List.length_cons]; omega
/-! ### lists in order, each thing once -/
theorem strict_uniq : ∀ {l m : List (List Key)}, l.Pairwise (fun x y => lexK x y = true) → m.Pairwise (fun x y => lexK x y = true) → (∀ x, x ∈ l ↔ x ∈ m) → l = m
  | [], [], _, _, _ => rfl
  | [], y :: m, _, _, h => by have := (h y).mpr List.mem_cons_self; cases this
  | x :: l, [], _, _, h => by have := (h x).mp List.mem_cons_self; cases this
  | x :: l, y :: m, hl, hm, h => by
    have hl' := List.pairwise_cons.mp hl
    have hm' := List.pairwise_cons.mp hm
    have e : x = y := by
      rcases List.mem_cons.mp ((h x).mp List.mem_cons_self) with e | h1
      · exact e
      rcases List.mem_cons.mp ((h y).mpr List.mem_cons_self) with e | h2
      · exact e.symm
      have a := hm'.1 x h1
      have b := hl'.1 y h2
      rw [lexK_as a] at b; cases b
    subst e
    have irr : ∀ z, lexK z z = true → False := fun z h => by rw [lexK_irr] at h; cases h
    rw [strict_uniq hl'.2 hm'.2 fun z => ⟨fun hz => ?_, fun hz => ?_⟩]
    · rcases List.mem_cons.mp ((h z).mp (List.mem_cons_of_mem _ hz)) with e | h1
      · subst e; exact (irr _ (hl'.1 _ hz)).elim
      · exact h1
    · rcases List.mem_cons.mp ((h z).mpr (List.mem_cons_of_mem _ hz)) with e | h1
      · subst e; exact (irr _ (hm'.1 _ hz)).elim
      · exact h1
theorem srtK_strict {l : List (List Key)} (h : SrtK l) (nd : l.Nodup) : l.Pairwise (fun x y => lexK x y = true) := by
  unfold SrtK at h
  have := List.Pairwise.and h nd
  refine this.imp ?_
  intro a b ⟨h1, h2⟩
  cases e : lexK a b with
  | true => rfl
  | false => exact absurd (lexK_tri e h1) h2
/-- the order made -/
def srtL (l : List (List Key)) : List (List Key) := l.mergeSort fun x y => !lexK y x
theorem srtL_perm (l : List (List Key)) : (srtL l).Perm l := List.mergeSort_perm ..
theorem srtL_srt (l : List (List Key)) : SrtK (srtL l) := by
  have := List.pairwise_mergeSort (le := fun x y => !lexK y x) (fun a b c h1 h2 => by
    have h1 : lexK b a = false := by simpa using h1
    have h2 : lexK c b = false := by simpa using h2
    simpa using lexK_neg h1 h2) (fun a b => by
    cases e : lexK b a with
    | false => rfl
    | true => simp [lexK_as e]) l
  exact this.imp fun h => by simpa using h
theorem srtL_eq {l ys : List (List Key)} (h : SrtK ys) (p : ys.Perm l) : ys = srtL l := srtK_uniq h (srtL_srt l) (p.trans (srtL_perm l).symm)

/-! ### a contract, hour by hour: what is given in an hour, what is left -/
def strLt (a b : Str) : Bool := decide (a.cps.toList < b.cps.toList)
theorem strLt_irr (a : Str) : strLt a a = false := decide_eq_false (lt_irr _)
theorem strLt_as {a b : Str} (h : strLt a b = true) : strLt b a = false := decide_eq_false (lt_as (of_decide_eq_true h))
theorem strLt_tri {a b : Str} (h : strLt a b = false) (n : a ≠ b) : strLt b a = true := by
  cases e : strLt b a with
  | true => rfl
  | false => exact absurd (str_ext (lt_tri (of_decide_eq_false h) (of_decide_eq_false e))) n
abbrev Fk := Str × Str × Str
def enc3 (k : Fk) : List Key := [.inr k.1, .inr k.2.1, .inr k.2.2]
theorem enc3_inj : ∀ a b, enc3 a = enc3 b → a = b
  | (a, b, c), (d, e, f), h => by
    simp only [enc3, List.cons.injEq, Sum.inr.injEq, and_true] at h
    obtain ⟨rfl, rfl, rfl⟩ := h; rfl
theorem enc3_n1 {k : Fk} : (enc3 k).length ≠ 1 := fun z => by cases z
theorem enc3_n5 {k : Fk} : (enc3 k).length ≠ 5 := fun z => by cases z
def Tb.add (f : Tb Fk) (a b g : Str) (n : Int) : Tb Fk := if strLt b a = true then f.put (b, a, g) (f.at_ (b, a, g) + (0 - n)) else f.put (a, b, g) (f.at_ (a, b, g) + n)
def tside (x a b : Str) : Str := if x = a then b else if x = b then a else x
def Tb.addAll (a b : Str) (f : Tb Fk) (l : Tb Fk) : Tb Fk := l.foldl (fun f p => f.add (tside p.1.1 a b) (tside p.1.2.1 a b) p.1.2.2 p.2) f
def Con.sums (r : Row) : Con → Tb Fk → Tb Fk
  | .no, f => f
  | .give a b g t, f => f.add a b g (t.val r)
  | .both x y, f => y.sums r (x.sums r f)
  | .turned a b x, f => f.addAll a b (x.sums r [])
  | .later h x, f => if h = 0 then x.sums r f else f
  | .often _ _ x, f => x.sums r f
  | .ite q x y, f => if q.val r = true then x.sums r f else y.sums r f
  | .when q x, f => if q.val r = true then x.sums r f else f
  | .till q x, f => if q.val r = true then f else x.sums r f
def Con.isNo : Con → Bool
  | .no => true
  | _ => false
theorem Con.isNo_iff {c : Con} : c.isNo = true ↔ c = .no := by cases c <;> simp [Con.isNo]
def bothOf (x y : Con) : Con := if x.isNo = true then y else if y.isNo = true then x else .both x y
def Con.rest (r : Row) : Con → Con
  | .no => .no
  | .give _ _ _ _ => .no
  | .both x y => bothOf (x.rest r) (y.rest r)
  | .turned a b x => if (x.rest r).isNo = true then .no else .turned a b (x.rest r)
  | .later h x => if h = 0 then x.rest r else .later (h - 1) x
  | .often n k x => if n = 1 then x.rest r else bothOf (x.rest r) (.later (k - 1) (.often (n - 1) k x))
  | .ite q x y => if q.val r = true then x.rest r else y.rest r
  | .when q x => if q.val r = true then x.rest r else .when q x
  | .till q x => if q.val r = true then .no else if (x.rest r).isNo = true then .no else .till q (x.rest r)
/-- its words are of W, its numbers of the names; hours and counts are ones -/
def Con.gd (W nms : List Str) : Con → Prop
  | .no => True
  | .give a b g t => (a ∈ W ∧ b ∈ W ∧ g ∈ W ∧ a ≠ b) ∧ t.of nms ∧ t.dp ≤ 12
  | .both x y => x.gd W nms ∧ y.gd W nms
  | .turned a b x => (a ∈ W ∧ b ∈ W ∧ a ≠ b) ∧ x.gd W nms
  | .later h x => 0 ≤ h ∧ x.gd W nms
  | .often n k x => (1 ≤ n ∧ 1 ≤ k) ∧ x.gd W nms
  | .ite q x y => (q.of nms ∧ q.dp ≤ 12 ∧ q.td ≤ 12) ∧ x.gd W nms ∧ y.gd W nms
  | .when q x => (q.of nms ∧ q.dp ≤ 12 ∧ q.td ≤ 12) ∧ x.gd W nms
  | .till q x => (q.of nms ∧ q.dp ≤ 12 ∧ q.td ≤ 12) ∧ x.gd W nms
/-- how deep it may ever be -/
def Con.rk : Con → Nat
  | .no => 1
  | .give _ _ _ t => t.dp + 3
  | .both x y => max x.rk y.rk + 1
  | .turned _ _ x => x.rk + 1
  | .later _ (.often n _ x) => n.toNat + 2 + x.rk
  | .later _ x => x.rk + 1
  | .often n _ x => n.toNat + 2 + x.rk
  | .ite q x y => max (q.dp + q.td + 4) (max x.rk y.rk) + 1
  | .when q x => max (q.dp + q.td + 4) x.rk + 1
  | .till q x => max (q.dp + q.td + 4) x.rk + 1
theorem Con.rk_pos : ∀ c : Con, 1 ≤ c.rk
  | .no => Nat.le_refl _
  | .give _ _ _ t => by simp only [Con.rk]; omega
  | .both x y => by simp only [Con.rk]; omega
  | .turned _ _ x => by simp only [Con.rk]; omega
  | .often n _ x => by simp only [Con.rk]; omega
  | .ite q x y => by simp only [Con.rk]; omega
  | .when q x => by simp only [Con.rk]; omega
  | .till q x => by simp only [Con.rk]; omega
  | .later _ x => by cases x <;> simp only [Con.rk] <;> omega
theorem Con.rk_later {h : Int} {x : Con} : (Con.later h x).rk ≤ x.rk + 1 := by
  cases x <;> simp only [Con.rk] <;> omega
theorem Con.rk_later' {h h' : Int} {x : Con} : (Con.later h x).rk = (Con.later h' x).rk := by
  cases x <;> rfl
theorem Con.later_rk {h : Int} {x : Con} : x.rk ≤ (Con.later h x).rk := by
  cases x <;> simp only [Con.rk] <;> omega
theorem bothOf_rk {x y : Con} : (bothOf x y).rk ≤ max x.rk y.rk + 1 := by
  unfold bothOf
  split
  · omega
  · split
    · omega
    · exact Nat.le_refl _
theorem bothOf_gd {W nms : List Str} {x y : Con} (h1 : x.gd W nms) (h2 : y.gd W nms) : (bothOf x y).gd W nms := by
  unfold bothOf
  split
  · exact h2
  · split
    · exact h1
    · exact ⟨h1, h2⟩
theorem Con.rest_gd {W nms : List Str} {r : Row} : ∀ {c : Con}, c.gd W nms → (c.rest r).gd W nms
  | .no, h => h
  | .give _ _ _ _, _ => trivial
  | .both x y, h => bothOf_gd (Con.rest_gd h.1) (Con.rest_gd h.2)
  | .turned a b x, h => by
    simp only [Con.rest]
    split
    · trivial
    · exact ⟨h.1, Con.rest_gd h.2⟩
  | .later n x, h => by
    simp only [Con.rest]
    split
    · exact Con.rest_gd h.2
    · have := h.1
      exact ⟨by omega, h.2⟩
  | .often n k x, h => by
    simp only [Con.rest]
    split
    · exact Con.rest_gd h.2
    · have := h.1
      exact bothOf_gd (Con.rest_gd h.2) ⟨by omega, ⟨by omega, by omega⟩, h.2⟩
  | .ite q x y, h => by
    simp only [Con.rest]
    split
    · exact Con.rest_gd h.2.1
    · exact Con.rest_gd h.2.2
  | .when q x, h => by
    simp only [Con.rest]
    split
    · exact Con.rest_gd h.2
    · exact h
  | .till q x, h => by
    simp only [Con.rest]
    split
    · trivial
    · split
      · trivial
      · exact ⟨h.1, Con.rest_gd h.2⟩
theorem Con.rest_rk {W nms : List Str} {r : Row} : ∀ {c : Con}, c.gd W nms → (c.rest r).rk ≤ c.rk
  | .no, h => Nat.le_refl _
  | .give _ _ _ t, _ => by simp only [Con.rest, Con.rk]; omega
  | .both x y, h => by
    have h1 := Con.rest_rk (r := r) h.1
    have h2 := Con.rest_rk (r := r) h.2
    simp only [Con.rest, Con.rk]
    have := bothOf_rk (x := x.rest r) (y := y.rest r)
    omega
  | .turned a b x, h => by
    have h1 := Con.rest_rk (r := r) h.2
    simp only [Con.rest]
    split
    · simp only [Con.rk]; omega
    · simp only [Con.rk]; omega
  | .later n x, h => by
    have h1 := Con.rest_rk (r := r) h.2
    simp only [Con.rest]
    split
    · exact Nat.le_trans h1 Con.later_rk
    · exact Nat.le_of_eq Con.rk_later'
  | .often n k x, h => by
    have h1 := Con.rest_rk (r := r) h.2
    have hn := h.1.1
    simp only [Con.rest]
    split
    · simp only [Con.rk]; omega
    · have := bothOf_rk (x := x.rest r) (y := .later (k - 1) (.often (n - 1) k x))
      simp only [Con.rk] at this ⊢
      omega
  | .ite q x y, h => by
    have h1 := Con.rest_rk (r := r) h.2.1
    have h2 := Con.rest_rk (r := r) h.2.2
    simp only [Con.rest]
    split <;> simp only [Con.rk] <;> omega
  | .when q x, h => by
    have h1 := Con.rest_rk (r := r) h.2
    simp only [Con.rest]
    split
    · simp only [Con.rk]; omega
    · exact Nat.le_refl _
  | .till q x, h => by
    have h1 := Con.rest_rk (r := r) h.2
    simp only [Con.rest]
    split
    · simp only [Con.rk]; omega
    · split
      · simp only [Con.rk]; omega
      · simp only [Con.rk]; omega
/-- a table over the words of W -/
structure Tb.gd (W : List Str) (f : Tb Fk) : Prop where
  nd : f.ks.Nodup
  k : ∀ k ∈ f.ks, k.1 ∈ W ∧ k.2.1 ∈ W ∧ k.2.2 ∈ W
  o : ∀ k ∈ f.ks, strLt k.1 k.2.1 = true
theorem Tb.gd_nil {W : List Str} : Tb.gd W [] := ⟨List.nodup_nil, (fun _ h => nomatch h), fun _ h => nomatch h⟩
theorem Tb.gd_len {W : List Str} {f : Tb Fk} (h : f.gd W) (hW : W.length ≤ 12) : f.length ≤ 1728 := by
  have h1 := nd_len (L := W.flatMap fun a => W.flatMap fun b => W.map fun c => ((a, b, c) : Fk)) h.nd fun k hk => by
    obtain ⟨a, b, c⟩ := h.k k hk
    exact List.mem_flatMap.mpr ⟨_, a, List.mem_flatMap.mpr ⟨_, b, List.mem_map.mpr ⟨_, c, rfl⟩⟩⟩
  have flen : ∀ {α : Type} (l : List Str) (g : Str → List α) (n : Nat), (∀ x, (g x).length = n) → (l.flatMap g).length = l.length * n := by
    intro α l g n hg
    induction l with
    | nil => simp
    | cons x l ih => rw [List.flatMap_cons, List.length_append, hg, ih, List.length_cons, Nat.succ_mul]; omega
  rw [flen W _ (W.length * W.length) (fun a => by rw [flen W _ W.length (fun b => by simp)])] at h1
  unfold Tb.ks at h1
  rw [List.length_map] at h1
  have : W.length * (W.length * W.length) ≤ 12 * (12 * 12) := Nat.mul_le_mul hW (Nat.mul_le_mul hW hW)
  omega
theorem Tb.add_gd {W : List Str} {f : Tb Fk} {a b g : Str} {n : Int} (h : f.gd W) (ha : a ∈ W) (hb : b ∈ W) (hg : g ∈ W) (ne : a ≠ b) : (f.add a b g n).gd W := by
  unfold Tb.add
  split
  · rename_i c
    refine ⟨Tb.put_nd h.nd, fun k hk => ?_, fun k hk => ?_⟩
    · rcases Tb.put_mem.mp hk with hk | rfl
      · exact h.k k hk
      · exact ⟨hb, ha, hg⟩
    · rcases Tb.put_mem.mp hk with hk | rfl
      · exact h.o k hk
      · exact c
  · rename_i c
    refine ⟨Tb.put_nd h.nd, fun k hk => ?_, fun k hk => ?_⟩
    · rcases Tb.put_mem.mp hk with hk | rfl
      · exact h.k k hk
      · exact ⟨ha, hb, hg⟩
    · rcases Tb.put_mem.mp hk with hk | rfl
      · exact h.o k hk
      · exact strLt_tri (by simpa using c) ne.symm
theorem tside_mem {W : List Str} {x a b : Str} (hx : x ∈ W) (ha : a ∈ W) (hb : b ∈ W) : tside x a b ∈ W := by
  unfold tside; split
  · exact hb
  · split <;> assumption
theorem tside_tside {x a b : Str} : tside (tside x a b) a b = x := by
  unfold tside
  by_cases h1 : x = a
  · subst h1
    rw [if_pos rfl]
    by_cases h2 : b = x
    · subst h2; simp
    · rw [if_neg h2, if_pos rfl]
  · rw [if_neg h1]
    by_cases h2 : x = b
    · subst h2; rw [if_pos rfl, if_pos rfl]
    · rw [if_neg h2, if_neg h1, if_neg h2]
theorem tside_ne {x y a b : Str} (h : x ≠ y) : tside x a b ≠ tside y a b := fun e => h (by rw [← tside_tside (x := x) (a := a) (b := b), e, tside_tside])
theorem tside_eq {x y a b : Str} : tside x a b = y ↔ x = tside y a b := ⟨fun e => by rw [← e, tside_tside], fun e => by rw [e, tside_tside]⟩
theorem Tb.addAll_gd {W : List Str} {a b : Str} (ha : a ∈ W) (hb : b ∈ W) : ∀ {l f : Tb Fk}, f.gd W → (∀ p ∈ l, (p.1.1 ∈ W ∧ p.1.2.1 ∈ W ∧ p.1.2.2 ∈ W) ∧ p.1.1 ≠ p.1.2.1) → (f.addAll a b l).gd W
  | [], f, h, _ => h
  | p :: l, f, h, hl => by
    obtain ⟨⟨h1, h2, h3⟩, h4⟩ := hl p List.mem_cons_self
    exact Tb.addAll_gd (l := l) ha hb (Tb.add_gd h (tside_mem h1 ha hb) (tside_mem h2 ha hb) h3 (tside_ne h4)) fun q hq => hl q (List.mem_cons_of_mem _ hq)
theorem Tb.gd_all {W : List Str} {f : Tb Fk} (h : f.gd W) : ∀ p ∈ f, (p.1.1 ∈ W ∧ p.1.2.1 ∈ W ∧ p.1.2.2 ∈ W) ∧ p.1.1 ≠ p.1.2.1 := fun p hp => by
  have m : p.1 ∈ f.ks := List.mem_map_of_mem hp
  refine ⟨h.k _ m, fun e => ?_⟩
  have := h.o _ m
  rw [e, strLt_irr] at this; cases this
theorem Con.sums_gd {W nms : List Str} {r : Row} : ∀ {c : Con} {f : Tb Fk}, c.gd W nms → f.gd W → (c.sums r f).gd W
  | .no, f, _, hf => hf
  | .give a b g t, f, h, hf => Tb.add_gd hf h.1.1 h.1.2.1 h.1.2.2.1 h.1.2.2.2
  | .both x y, f, h, hf => Con.sums_gd (c := y) h.2 (Con.sums_gd (c := x) h.1 hf)
  | .turned a b x, f, h, hf => Tb.addAll_gd h.1.1 h.1.2.1 hf (Tb.gd_all (Con.sums_gd (r := r) h.2 Tb.gd_nil))
  | .later n x, f, h, hf => by
    simp only [Con.sums]; split
    · exact Con.sums_gd h.2 hf
    · exact hf
  | .often n k x, f, h, hf => Con.sums_gd (c := x) h.2 hf
  | .ite q x y, f, h, hf => by
    simp only [Con.sums]; split
    · exact Con.sums_gd h.2.1 hf
    · exact Con.sums_gd h.2.2 hf
  | .when q x, f, h, hf => by
    simp only [Con.sums]; split
    · exact Con.sums_gd h.2 hf
    · exact hf
  | .till q x, f, h, hf => by
    simp only [Con.sums]; split
    · exact hf
    · exact Con.sums_gd h.2 hf
/-! as it is read -/
def Told.pd : Told → PyData
  | .num i => .tuple [.str "num", .int i]
  | .read x => .tuple [.str "read", .str x]
  | .bin j a b => .tuple [.str j.w, a.pd, b.pd]
def Asked.pd : Asked → PyData
  | .lt a b => .tuple [.str "below", a.pd, b.pd]
  | .no a => .tuple [.str "not", a.pd]
  | .all a b => .tuple [.str "all", a.pd, b.pd]
  | .any a b => .tuple [.str "any", a.pd, b.pd]
def Con.pd : Con → PyData
  | .no => .tuple [.str "none"]
  | .give a b g t => .tuple [.str "give", .str a, .str b, .str g, t.pd]
  | .both x y => .tuple [.str "both", x.pd, y.pd]
  | .turned a b x => .tuple [.str "turned", .str a, .str b, x.pd]
  | .later h x => .tuple [.str "later", .int h, x.pd]
  | .often n k x => .tuple [.str "often", .int n, .int k, x.pd]
  | .ite q x y => .tuple [.str "if", q.pd, x.pd, y.pd]
  | .when q x => .tuple [.str "when", q.pd, x.pd]
  | .till q x => .tuple [.str "until", q.pd, x.pd]
theorem Told.vw {m : Mem} : ∀ t : Told, Vw m t.d t.pd
  | .num i => .tup (.cons (.str _) (.cons (.int _) .nil))
  | .read x => .tup (.cons (.str _) (.cons (.str _) .nil))
  | .bin j a b => .tup (.cons (.str _) (.cons (Told.vw a) (.cons (Told.vw b) .nil)))
theorem Asked.vw {m : Mem} : ∀ t : Asked, Vw m t.d t.pd
  | .lt a b => .tup (.cons (.str _) (.cons (Told.vw a) (.cons (Told.vw b) .nil)))
  | .no a => .tup (.cons (.str _) (.cons (Asked.vw a) .nil))
  | .all a b => .tup (.cons (.str _) (.cons (Asked.vw a) (.cons (Asked.vw b) .nil)))
  | .any a b => .tup (.cons (.str _) (.cons (Asked.vw a) (.cons (Asked.vw b) .nil)))
theorem Con.vw {m : Mem} : ∀ c : Con, Vw m c.d c.pd
  | .no => .tup (.cons (.str _) .nil)
  | .give a b g t => .tup (.cons (.str _) (.cons (.str _) (.cons (.str _) (.cons (.str _) (.cons (Told.vw t) .nil)))))
  | .both x y => .tup (.cons (.str _) (.cons (Con.vw x) (.cons (Con.vw y) .nil)))
  | .turned a b x => .tup (.cons (.str _) (.cons (.str _) (.cons (.str _) (.cons (Con.vw x) .nil))))
  | .later h x => .tup (.cons (.str _) (.cons (.int _) (.cons (Con.vw x) .nil)))
  | .often n k x => .tup (.cons (.str _) (.cons (.int _) (.cons (.int _) (.cons (Con.vw x) .nil))))
  | .ite q x y => .tup (.cons (.str _) (.cons (Asked.vw q) (.cons (Con.vw x) (.cons (Con.vw y) .nil))))
  | .when q x => .tup (.cons (.str _) (.cons (Asked.vw q) (.cons (Con.vw x) .nil)))
  | .till q x => .tup (.cons (.str _) (.cons (Asked.vw q) (.cons (Con.vw x) .nil)))
/-- the words are ones that a text may hold -/
def WOk (L : List Str) : Prop := ∀ x ∈ L, PyData.strOk x = true
theorem ok_lits : WOk ["num", "read", "plus", "minus", "times", "most", "least", "below", "not", "all", "any", "none", "give", "both", "turned", "later", "often", "if", "when", "until"] := by unfold WOk; decide +kernel
theorem Jn.ok (j : Jn) : PyData.strOk j.w = true := by cases j <;> exact ok_lits _ (by simp [Jn.w])
local macro_rules | `(tactic| wtm_at "lit") => `(tactic| exact ok_lits _ (by simp))
theorem Told.lay {nms : List Str} (h : WOk nms) : ∀ {t : Told}, t.of nms → t.pd.canLay0 = true
  | .num i, _ => by simp only [Told.pd, PyData.canLay0, PyData.canLayAll0, Bool.and_true]; wtm_at "lit"
  | .read x, hx => by simp only [Told.pd, PyData.canLay0, PyData.canLayAll0, h x hx, Bool.and_true]; wtm_at "lit"
  | .bin j a b, hx => by simp only [Told.pd, PyData.canLay0, PyData.canLayAll0, Told.lay h hx.1, Told.lay h hx.2, Bool.and_true, Jn.ok]
theorem Asked.lay {nms : List Str} (h : WOk nms) : ∀ {t : Asked}, t.of nms → t.pd.canLay0 = true
  | .lt a b, hx => by simp only [Asked.pd, PyData.canLay0, PyData.canLayAll0, Told.lay h hx.1, Told.lay h hx.2, Bool.and_true]; wtm_at "lit"
  | .no a, hx => by simp only [Asked.pd, PyData.canLay0, PyData.canLayAll0, Asked.lay h (t := a) hx, Bool.and_true]; wtm_at "lit"
  | .all a b, hx => by simp only [Asked.pd, PyData.canLay0, PyData.canLayAll0, Asked.lay h hx.1, Asked.lay h hx.2, Bool.and_true]; wtm_at "lit"
  | .any a b, hx => by simp only [Asked.pd, PyData.canLay0, PyData.canLayAll0, Asked.lay h hx.1, Asked.lay h hx.2, Bool.and_true]; wtm_at "lit"
def Con.ly (c : Con) : Prop := c.pd.canLay0 = true
theorem Con.lay {W nms : List Str} (hW : WOk W) (h : WOk nms) : ∀ {c : Con}, c.gd W nms → c.ly
  | .no, _ => by simp only [Con.ly, Con.pd, PyData.canLay0, PyData.canLayAll0, Bool.and_true]; wtm_at "lit"
  | .give a b g t, hx => by simp only [Con.ly, Con.pd, PyData.canLay0, PyData.canLayAll0, Told.lay h hx.2.1, hW a hx.1.1, hW b hx.1.2.1, hW g hx.1.2.2.1, Bool.and_true]; wtm_at "lit"
  | .both x y, hx => by
    have h1 := Con.lay hW h hx.1
    have h2 := Con.lay hW h hx.2
    unfold Con.ly at h1 h2 ⊢
    simp only [Con.pd, PyData.canLay0, PyData.canLayAll0, h1, h2, Bool.and_true]; wtm_at "lit"
  | .turned a b x, hx => by
    have h1 := Con.lay hW h hx.2
    unfold Con.ly at h1 ⊢
    simp only [Con.pd, PyData.canLay0, PyData.canLayAll0, h1, hW a hx.1.1, hW b hx.1.2.1, Bool.and_true]; wtm_at "lit"
  | .later n x, hx => by
    have h1 := Con.lay hW h hx.2
    unfold Con.ly at h1 ⊢
    simp only [Con.pd, PyData.canLay0, PyData.canLayAll0, h1, Bool.and_true]; wtm_at "lit"
  | .often n k x, hx => by
    have h1 := Con.lay hW h hx.2
    unfold Con.ly at h1 ⊢
    simp only [Con.pd, PyData.canLay0, PyData.canLayAll0, h1, Bool.and_true]; wtm_at "lit"
  | .ite q x y, hx => by
    have h1 := Con.lay hW h hx.2.1
    have h2 := Con.lay hW h hx.2.2
    have h3 := Asked.lay h hx.1.1
    unfold Con.ly at h1 h2 ⊢
    simp only [Con.pd, PyData.canLay0, PyData.canLayAll0, h1, h2, h3, Bool.and_true]; wtm_at "lit"
  | .when q x, hx => by
    have h1 := Con.lay hW h hx.2
    have h3 := Asked.lay h hx.1.1
    unfold Con.ly at h1 ⊢
    simp only [Con.pd, PyData.canLay0, PyData.canLayAll0, h1, h3, Bool.and_true]; wtm_at "lit"
  | .till q x, hx => by
    have h1 := Con.lay hW h hx.2
    have h3 := Asked.lay h hx.1.1
    unfold Con.ly at h1 ⊢
    simp only [Con.pd, PyData.canLay0, PyData.canLayAll0, h1, h3, Bool.and_true]; wtm_at "lit"
theorem Con.no_ly : (Con.no).ly := Con.lay (W := []) (nms := []) (fun _ h => nomatch h) (fun _ h => nomatch h) (c := .no) trivial
theorem Con.eqv_no (c : Con) : PyData.eqv c.pd (Con.pd .no) = c.isNo := by
  cases c <;> simp [Con.pd, PyData.eqv, PyData.eqvAll, Con.isNo, ofString_inj]
theorem Con.eqM_no {m : Mem} {c : Con} (h : c.ly) : EqM m c.d (.tup [.str "none"]) c.isNo :=
  .inr ⟨_, _, Con.vw c, Con.vw .no, h, Con.no_ly, by
    have : (Con.pd .no).depth ≤ 1 := by simp [Con.pd, PyData.depth, PyData.depthAll]
    omega, (Con.eqv_no c).symm⟩

def spAdded : SpM := fun ds m Q _ => ∃ (sa : Addr) (a b g : Str) (n : Int) (f : Tb Fk), ds = [.ref sa, .str a, .str b, .str g, .int n] ∧ m sa = some (f.o enc3) ∧ f.length < 2000 ∧ Q .non (mput m sa ((f.add a b g n).o enc3))
def spBothOf : SpM := fun ds m Q _ => ∃ x y : Con, ds = [x.d, y.d] ∧ x.ly ∧ y.ly ∧ Q (bothOf x y).d m
abbrev s_both_of : Stmt := topS 10
theorem sc_both_of : FnScope ["one", "other"] ["one", "other"] (defScope s_both_of) := ⟨rfl, rfl, rfl, by decide +kernel, rfl, by decide +kernel, by decide +kernel⟩
theorem ok_both_of {k : Nat} (V : Gv K mg) {f_both_of : Addr} {fd_both_of : FuncData} (F : Fun K "both_of" "both_of" s_both_of f_both_of fd_both_of) : FnM P w K mg base CX0 (k + 1) f_both_of fd_both_of ["one", "other"] (spBothOf) := by
  refine fn_m F sc_both_of (fun ds m Q E h => ?_) (fun cdv A outer s H ds m Q E E' hr h => ?_)
  · obtain ⟨x, y, rfl, _⟩ := h; rfl
  have nd := sc_both_of.nd
  obtain ⟨x, y, rfl, lx, ly, q⟩ := h
  refine ⟨_, (mss_cons (ms_if (mt_cmp (mo_eqM hr) (mv 0) (mx_gt V.NONE) (nomark _)) (mss_one (ms_ret (mv 1))) mss_nil)
    (mss_cons (ms_if (mt_cmp (mo_eqM hr) (mv 1) (mx_gt V.NONE) (nomark _)) (mss_one (ms_ret (mv 0))) mss_nil)
    (mss_one (ms_ret (mx_tup (ma_cons mx_str (ma_cons (mv 0) (ma_cons (mv 1) ma_nil)))))))), ?_⟩
  unfold bothOf at q
  wtm_at "go"
  refine i_eqM (Con.eqM_no lx) ?_
  wtm_at "go"
  refine i_ite (fun c => ?_) (fun c => ?_)
  · wtm_at "go"
    rw [if_pos c] at q; exact RtM.mk q
  · rw [c, if_neg Bool.false_ne_true] at q
    wtm_at "go"
    refine i_eqM (Con.eqM_no ly) ?_
    wtm_at "go"
    refine i_ite (fun c => ?_) (fun c => ?_)
    · wtm_at "go"
      rw [if_pos c] at q; exact RtM.mk q
    · rw [c, if_neg Bool.false_ne_true] at q
      wtm_at "go"
      all_goals exact RtM.mk q
def spTside : SpM := fun ds m Q _ => ∃ x a b : Str, ds = [.str x, .str a, .str b] ∧ Q (.str (tside x a b)) m
abbrev s_turned_side : Stmt := topS 11
theorem sc_turned_side : FnScope ["side", "one", "other"] ["side", "one", "other"] (defScope s_turned_side) := ⟨rfl, rfl, rfl, by decide +kernel, rfl, by decide +kernel, by decide +kernel⟩
theorem ok_turned_side {k : Nat} {f_turned_side : Addr} {fd_turned_side : FuncData} (F : Fun K "turned_side" "turned_side" s_turned_side f_turned_side fd_turned_side) : FnM P w K mg base CX0 (k + 1) f_turned_side fd_turned_side ["side", "one", "other"] (spTside) := by
  refine fn_m F sc_turned_side (fun ds m Q E h => ?_) (fun cdv A outer s H ds m Q E E' hr h => ?_)
  · obtain ⟨x, a, b, rfl, _⟩ := h; rfl
  have nd := sc_turned_side.nd
  obtain ⟨x, a, b, rfl, q⟩ := h
  refine ⟨_, (mss_cons (ms_if (mt_cmp (mo_eqq hr) (mv 0) (mv 1) (nomark _)) (mss_one (ms_ret (mv 2))) mss_nil)
    (mss_one (ms_ret (mx_if (mt_cmp (mo_eqq hr) (mv 0) (mv 2) (nomark _)) (mv 1) (mv 0))))), ?_⟩
  unfold tside at q
  wtm_at "go"
  refine i_ite (fun c => ?_) (fun c => ?_)
  · wtm_at "go"
    rw [if_pos (of_decide_eq_true c)] at q; exact RtM.mk q
  · rw [if_neg (of_decide_eq_false c)] at q
    wtm_at "go"
    refine i_ite (fun c => ?_) (fun c => ?_)
    · wtm_at "go"
      rw [if_pos (of_decide_eq_true c)] at q; exact RtM.mk q
    · wtm_at "go"
      rw [if_neg (of_decide_eq_false c)] at q; exact RtM.mk q
/-- a contract goes on over an hour -/
structure GoI (m : Mem) (c : Con) (ra sa : Addr) (r : Row) (f : Tb Fk) : Prop where
  x : ∃ W nms : List Str, (W.length ≤ 12 ∧ WOk W ∧ WOk nms) ∧ c.gd W nms ∧ RowI r nms ∧ f.gd W
  r : rdM m ra = some r.o
  f : m sa = some (f.o enc3)
def GoI.q (m : Mem) (c : Con) (sa : Addr) (r : Row) (f : Tb Fk) (Q : KM) : Prop := Q (c.rest r).d (mput m sa ((c.sums r f).o enc3))
def spGoing (n : Nat) : SpM := fun ds m Q _ => ∃ (c : Con) (ra sa : Addr) (r : Row) (f : Tb Fk), ds = [c.d, .ref ra, .ref sa] ∧ c.dp < n ∧ GoI m c ra sa r f ∧ Q (c.rest r).d (mput m sa ((c.sums r f).o enc3))
def spGoingT (n : Nat) : SpM := fun ds m Q _ => ∃ (a b : Str) (x : Con) (ra sa : Addr) (r : Row) (f : Tb Fk), ds = [(Con.turned a b x).d, .ref ra, .ref sa] ∧ x.dp < n ∧ GoI m (.turned a b x) ra sa r f ∧ Q ((Con.turned a b x).rest r).d (mput m sa (((Con.turned a b x).sums r f).o enc3))
def Con.asks : Con → Prop
  | .ite _ _ _ => True
  | .when _ _ => True
  | .till _ _ => True
  | _ => False
def spGoingA (n : Nat) : SpM := fun ds m Q _ => ∃ (c : Con) (ra sa : Addr) (r : Row) (f : Tb Fk), ds = [c.d, .ref ra, .ref sa] ∧ c.dp < n + 1 ∧ c.asks ∧ GoI m c ra sa r f ∧ Q (c.rest r).d (mput m sa ((c.sums r f).o enc3))
theorem GoI.put {m : Mem} {c x : Con} {ra sa : Addr} {r : Row} {f f' : Tb Fk} (h : GoI m c ra sa r f) (hx : ∀ W nms, c.gd W nms → x.gd W nms) (hf : ∀ W nms, c.gd W nms → RowI r nms → f.gd W → f'.gd W) : GoI (mput m sa (f'.o enc3)) x ra sa r f' := by
  obtain ⟨⟨W, nms, h1, h2, h3, h4⟩, h5, h6⟩ := h
  refine ⟨⟨W, nms, h1, hx _ _ h2, h3, hf _ _ h2 h3 h4⟩, ?_, mput_same⟩
  rw [rdM_off ?_ h5]
  rintro rfl
  rw [rd_T h6] at h5; cases h5
theorem GoI.ly {m : Mem} {c : Con} {ra sa : Addr} {r : Row} {f : Tb Fk} (h : GoI m c ra sa r f) : c.ly := by
  obtain ⟨⟨W, nms, h1, h2, h3, h4⟩, h5, h6⟩ := h
  exact Con.lay h1.2.1 h1.2.2 h2
theorem GoI.rest_ly {m : Mem} {c : Con} {ra sa : Addr} {r : Row} {f : Tb Fk} (h : GoI m c ra sa r f) : (c.rest r).ly := by
  obtain ⟨⟨W, nms, h1, h2, h3, h4⟩, h5, h6⟩ := h
  exact Con.lay h1.2.1 h1.2.2 (Con.rest_gd h2)
theorem GoI.sub {m : Mem} {c x : Con} {ra sa : Addr} {r : Row} {f : Tb Fk} (h : GoI m c ra sa r f) (hx : ∀ W nms, c.gd W nms → x.gd W nms) : GoI m x ra sa r f := by
  obtain ⟨⟨W, nms, h1, h2, h3, h4⟩, h5, h6⟩ := h
  exact ⟨⟨W, nms, h1, hx _ _ h2, h3, h4⟩, h5, h6⟩
theorem keys3 {f : Tb Fk} : keysO (f.o enc3) (f.map fun p => .tup [.str p.1.1, .str p.1.2.1, .str p.1.2.2]) := by
  refine ⟨?_, fun p hp => ?_⟩
  · unfold Tb.kvs; rw [List.map_map]; rfl
  · obtain ⟨q, _, rfl⟩ := List.mem_map.mp hp; exact ⟨enc3_n1, enc3_n5⟩
/-! ### what is owed, as a list -/
abbrev tupD (k : List Key) : D := .tup (k.map kD)
def ent3 (p : Fk × Int) : List (List Key) := if 0 < p.2 then [[.inr p.1.1, .inr p.1.2.1, .inr p.1.2.2, .inl p.2]] else if p.2 < 0 then [[.inr p.1.2.1, .inr p.1.1, .inr p.1.2.2, .inl (0 - p.2)]] else []
def entries3 (f : Tb Fk) : List (List Key) := f.flatMap ent3
def hourL (c : Con) (r : Row) : List (List Key) := srtL (entries3 (c.sums r []))
def owedL (c : Con) : List Row → Int → List (List Key)
  | [], _ => []
  | r :: rs, h => (hourL c r).map (.inl h :: ·) ++ owedL (c.rest r) rs (h + 1)
def restN (c : Con) : List Row → Con
  | [] => c
  | r :: rs => restN (c.rest r) rs
theorem ent3_len (p : Fk × Int) : (ent3 p).length ≤ 1 := by
  unfold ent3; split
  · exact Nat.le_refl _
  · split
    · exact Nat.le_refl _
    · exact Nat.zero_le _
theorem entries3_len : ∀ f : Tb Fk, (entries3 f).length ≤ f.length
  | [] => Nat.le_refl _
  | p :: f => by
    have := ent3_len p
    have := entries3_len f
    unfold entries3 at this ⊢
    rw [List.flatMap_cons, List.length_append, List.length_cons]; omega
theorem ent3_sh {f : Tb Fk} : ∀ x ∈ entries3 f, ∃ a b c n, x = [.inr a, .inr b, .inr c, .inl n] := fun x hx => by
  obtain ⟨p, _, h⟩ := List.mem_flatMap.mp hx
  unfold ent3 at h
  split at h
  · exact ⟨_, _, _, _, List.mem_singleton.mp h⟩
  · split at h
    · exact ⟨_, _, _, _, List.mem_singleton.mp h⟩
    · cases h
theorem Sub.none {m M : Mem} (s : Sub m M) {p : Addr} (h : M p = none) : m p = none := by
  cases e : m p with
  | none => rfl
  | some o => rw [s _ _ e] at h; cases h
theorem newO.rt {m M : Mem} {Q : KM} {o : O} {p : Addr} (s : Sub m M) (h : M p = none) (q : newO o m Q) : RtM Q (.ref p) (mput M p o) := RtM.sub (Sub.put s) (q p (s.none h))
def spToldSums : SpM := fun ds m Q _ => ∃ (sa : Addr) (f : Tb Fk), ds = [.ref sa] ∧ m sa = some (f.o enc3) ∧ f.ks.Nodup ∧ f.length < 2000 ∧ newO (.lst ((srtL (entries3 f)).map tupD)) m Q
/-- a contract and a row -/
structure ConI (c : Con) (W nms : List Str) : Prop where
  w : W.length ≤ 12 ∧ WOk W ∧ WOk nms
  g : c.gd W nms
def spOneHour (n : Nat) : SpM := fun ds m Q _ => ∃ (c : Con) (ra : Addr) (r : Row) (W nms : List Str), ds = [c.d, .ref ra] ∧ c.dp < n ∧ ConI c W nms ∧ RowI r nms ∧ rdM m ra = some r.o ∧
  ∀ p, m p = none → Q (.tup [.ref p, (c.rest r).d]) (mput m p (.lst ((hourL c r).map tupD)))
structure RowsR (m : Mem) (nms : List Str) (rs : List (Addr × Row)) : Prop where
  at_ : ∀ r ∈ rs, rdM m r.1 = some r.2.o ∧ RowI r.2 nms
theorem RowsR.sub {m m' : Mem} {nms : List Str} {rs : List (Addr × Row)} (h : RowsR m nms rs) (s : Sub m m') : RowsR m' nms rs := ⟨fun r hr => by
  obtain ⟨h1, h2⟩ := h.at_ r hr
  refine ⟨?_, h2⟩
  unfold rdM at h1 ⊢
  cases e : m r.1 with
  | none => rw [e] at h1; cases h1
  | some o => rw [e] at h1; rw [s _ _ e]; exact h1⟩
theorem rdM_sub {m m' : Mem} {a : Addr} {o : O} (s : Sub m m') (h : rdM m a = some o) : rdM m' a = some o := by
  unfold rdM at h ⊢
  cases e : m a with
  | none => rw [e] at h; cases h
  | some o => rw [e] at h; rw [s _ _ e]; exact h
theorem rangeD_succ {lo : Int} {n : Nat} : rangeD lo (n + 1) = .int lo :: rangeD (lo + 1) n := by
  unfold rangeD
  rw [List.range_succ_eq_map, List.map_cons, List.map_map]
  congr 1
  · congr 1; simp
  · apply List.map_congr_left; intro i _; show D.int (lo + ((i + 1 : Nat) : Int)) = D.int (lo + 1 + (i : Int)); congr 1; omega
def spCut (n : Nat) : SpM := fun ds m Q _ => ∃ (c : Con) (ra : Addr) (rs : List (Addr × Row)) (W nms : List Str), ds = [c.d, .ref ra] ∧ c.rk < n ∧ ConI c W nms ∧ rs.length ≤ 1000 ∧ rdM m ra = some (.lst (rs.map fun r => .ref r.1)) ∧ RowsR m nms rs ∧
  ∀ p, m p = none → Q (.tup [.ref p, (restN c (rs.map (·.2))).d]) (mput m p (.lst ((owedL c (rs.map (·.2)) 0).map tupD)))
theorem Con.dp_rk : ∀ c : Con, c.dp < c.rk
  | .no => Nat.lt_succ_self _
  | .give _ _ _ t => by simp only [Con.rk, Con.dp]; omega
  | .both x y => by have := Con.dp_rk x; have := Con.dp_rk y; simp only [Con.rk, Con.dp]; omega
  | .turned _ _ x => by have := Con.dp_rk x; simp only [Con.rk, Con.dp]; omega
  | .often n _ x => by have := Con.dp_rk x; simp only [Con.rk, Con.dp]; omega
  | .ite q x y => by have := Con.dp_rk x; have := Con.dp_rk y; simp only [Con.rk, Con.dp]; omega
  | .when q x => by have := Con.dp_rk x; simp only [Con.rk, Con.dp]; omega
  | .till q x => by have := Con.dp_rk x; simp only [Con.rk, Con.dp]; omega
  | .later _ x => by
    have := Con.dp_rk x
    cases x with
    | often n k y => have := Con.dp_rk y; simp only [Con.rk, Con.dp] at this ⊢; omega
    | _ => simp only [Con.rk, Con.dp] at this ⊢; omega
theorem hourL_len {c : Con} {r : Row} {W nms : List Str} (h : ConI c W nms) : (hourL c r).length ≤ 1728 := by
  have hg := Con.sums_gd (r := r) h.g Tb.gd_nil
  have h1 := Tb.gd_len hg h.w.1
  have h2 := entries3_len (c.sums r [])
  have h3 := (srtL_perm (entries3 (c.sums r []))).length_eq
  unfold hourL; omega
theorem owedL_append {c : Con} : ∀ {rs rs' : List Row} {h : Int}, owedL c (rs ++ rs') h = owedL c rs h ++ owedL (restN c rs) rs' (h + rs.length)
  | [], rs', h => by simp [owedL, restN]
  | r :: rs, rs', h => by
    have ih := owedL_append (c := c.rest r) (rs := rs) (rs' := rs') (h := h + 1)
    rw [List.cons_append, owedL, owedL, ih, List.append_assoc, restN, List.length_cons, show h + 1 + (rs.length : Int) = h + ((rs.length + 1 : Nat) : Int) by omega]
theorem restN_append {c : Con} : ∀ {rs rs' : List Row}, restN c (rs ++ rs') = restN (restN c rs) rs'
  | [], _ => rfl
  | r :: rs, rs' => restN_append (c := c.rest r) (rs := rs)
theorem ConI.rest {c : Con} {W nms : List Str} {r : Row} (h : ConI c W nms) : ConI (c.rest r) W nms := ⟨h.w, Con.rest_gd h.g⟩
theorem ConI.restN {W nms : List Str} : ∀ {rs : List Row} {c : Con}, ConI c W nms → ConI (restN c rs) W nms
  | [], _, h => h
  | _ :: rs, _, h => ConI.restN (rs := rs) h.rest
theorem restN_rk {W nms : List Str} : ∀ {rs : List Row} {c : Con}, ConI c W nms → (restN c rs).rk ≤ c.rk
  | [], _, _ => Nat.le_refl _
  | _ :: rs, _, h => Nat.le_trans (restN_rk (rs := rs) h.rest) (Con.rest_rk h.g)
theorem owedL_len {W nms : List Str} : ∀ {rs : List Row} {c : Con} {h : Int}, ConI c W nms → (owedL c rs h).length ≤ 1728 * rs.length
  | [], _, _, _ => Nat.zero_le _
  | r :: rs, c, h, hc => by
    have h1 := hourL_len (r := r) hc
    have h2 := owedL_len (rs := rs) (h := h + 1) (hc.rest (r := r))
    rw [owedL, List.length_append, List.length_map, List.length_cons]; omega
def spOwed (n : Nat) : SpM := fun ds m Q _ => ∃ (c : Con) (ra : Addr) (rs : List (Addr × Row)) (W nms : List Str), ds = [c.d, .ref ra] ∧ c.rk < n ∧ ConI c W nms ∧ rs.length ≤ 1000 ∧ rdM m ra = some (.lst (rs.map fun r => .ref r.1)) ∧ RowsR m nms rs ∧
  newO (.lst ((owedL c (rs.map (·.2)) 0).map tupD)) m Q
/-! ### a plain reading of a contract: all that it gives, as a table by hours -/
abbrev F4 := Int × Fk
def enc4 (k : F4) : List Key := [.inl k.1, .inr k.2.1, .inr k.2.2.1, .inr k.2.2.2]
theorem enc4_inj : ∀ a b, enc4 a = enc4 b → a = b
  | (h, a, b, c), (i, d, e, f), z => by
    simp only [enc4, List.cons.injEq, Sum.inr.injEq, Sum.inl.injEq, and_true] at z
    obtain ⟨rfl, rfl, rfl, rfl⟩ := z; rfl
theorem enc4_n1 {k : F4} : (enc4 k).length ≠ 1 := fun z => by cases z
theorem enc4_n5 {k : F4} : (enc4 k).length ≠ 5 := fun z => by cases z
def Tb.add4 (f : Tb F4) (h : Int) (a b g : Str) (n : Int) : Tb F4 := if strLt b a = true then f.put (h, b, a, g) (f.at_ (h, b, a, g) + (0 - n)) else f.put (h, a, b, g) (f.at_ (h, a, b, g) + n)
def Tb.addAll4 (a b : Str) (f : Tb F4) (l : Tb F4) : Tb F4 := l.foldl (fun f p => f.add4 p.1.1 (tside p.1.2.1 a b) (tside p.1.2.2.1 a b) p.1.2.2.2 p.2) f
def rowAt (rows : List Row) (b : Int) : Row := rows.getD b.toNat []
def hoursL (rows : List Row) (q : Asked) (b e : Int) : List Int := ((List.range (e - b).toNat).map fun i : Nat => b + (i : Int)).filter fun k => q.val (rowAt rows k)
def Con.fl (rows : List Row) : Con → Int → Int → Tb F4 → Tb F4
  | .no, _, _, f => f
  | .give x y g t, b, e, f => if e ≤ b then f else f.add4 b x y g (t.val (rowAt rows b))
  | .both x y, b, e, f => if e ≤ b then f else y.fl rows b e (x.fl rows b e f)
  | .turned p q x, b, e, f => if e ≤ b then f else f.addAll4 p q (x.fl rows b e [])
  | .later n x, b, e, f => if e ≤ b then f else x.fl rows (b + n) e f
  | .often n k x, b, e, f => if e ≤ b then f else (List.range n.toNat).foldl (fun f (i : Nat) => x.fl rows (b + (i : Int) * k) e f) f
  | .ite q x y, b, e, f => if e ≤ b then f else if q.val (rowAt rows b) = true then x.fl rows b e f else y.fl rows b e f
  | .when q x, b, e, f => if e ≤ b then f else match (hoursL rows q b e).head? with
    | none => f
    | some h => x.fl rows h e f
  | .till q x, b, e, f => if e ≤ b then f else x.fl rows b ((hoursL rows q b e).head?.getD e) f
/-- a table over the words of W and n hours -/
structure Tb.gd4 (W : List Str) (n : Nat) (f : Tb F4) : Prop where
  nd : f.ks.Nodup
  h : ∀ k ∈ f.ks, 0 ≤ k.1 ∧ k.1 < n
  k : ∀ k ∈ f.ks, k.2.1 ∈ W ∧ k.2.2.1 ∈ W ∧ k.2.2.2 ∈ W
  o : ∀ k ∈ f.ks, strLt k.2.1 k.2.2.1 = true
theorem Tb.gd4_nil {W : List Str} {n : Nat} : Tb.gd4 W n [] := ⟨List.nodup_nil, (fun _ h => nomatch h), (fun _ h => nomatch h), fun _ h => nomatch h⟩
theorem flen {α β : Type} (l : List β) (g : β → List α) (n : Nat) (hg : ∀ x, (g x).length = n) : (l.flatMap g).length = l.length * n := by
  induction l with
  | nil => simp
  | cons x l ih => rw [List.flatMap_cons, List.length_append, hg, ih, List.length_cons, Nat.succ_mul]; omega
theorem Tb.gd4_len {W : List Str} {n : Nat} {f : Tb F4} (h : f.gd4 W n) (hW : W.length ≤ 12) : f.length ≤ n * 1728 := by
  have h1 := nd_len (L := (List.range n).flatMap fun i : Nat => W.flatMap fun a => W.flatMap fun b => W.map fun c => (((i : Int), a, b, c) : F4)) h.nd fun k hk => by
    obtain ⟨a, b, c⟩ := h.k k hk
    obtain ⟨h0, h1⟩ := h.h k hk
    refine List.mem_flatMap.mpr ⟨k.1.toNat, List.mem_range.mpr (by omega), List.mem_flatMap.mpr ⟨_, a, List.mem_flatMap.mpr ⟨_, b, List.mem_map.mpr ⟨_, c, ?_⟩⟩⟩⟩
    obtain ⟨k1, k2, k3, k4⟩ := k
    show (((k1.toNat : Int), k2, k3, k4) : F4) = (k1, k2, k3, k4)
    rw [show (k1.toNat : Int) = k1 from Int.toNat_of_nonneg h0]
  rw [flen _ _ (W.length * (W.length * W.length)) (fun i => by rw [flen W _ (W.length * W.length) (fun a => by rw [flen W _ W.length (fun b => by simp)])]), List.length_range] at h1
  unfold Tb.ks at h1
  rw [List.length_map] at h1
  have : W.length * (W.length * W.length) ≤ 12 * (12 * 12) := Nat.mul_le_mul hW (Nat.mul_le_mul hW hW)
  exact Nat.le_trans h1 (Nat.mul_le_mul_left n this)
theorem Tb.add4_gd {W : List Str} {N : Nat} {f : Tb F4} {h : Int} {a b g : Str} {n : Int} (hf : f.gd4 W N) (h0 : 0 ≤ h) (h1 : h < N) (ha : a ∈ W) (hb : b ∈ W) (hg : g ∈ W) (ne : a ≠ b) : (f.add4 h a b g n).gd4 W N := by
  unfold Tb.add4
  split
  · rename_i c
    refine ⟨Tb.put_nd hf.nd, fun k hk => ?_, fun k hk => ?_, fun k hk => ?_⟩
    · rcases Tb.put_mem.mp hk with hk | rfl
      · exact hf.h k hk
      · exact ⟨h0, h1⟩
    · rcases Tb.put_mem.mp hk with hk | rfl
      · exact hf.k k hk
      · exact ⟨hb, ha, hg⟩
    · rcases Tb.put_mem.mp hk with hk | rfl
      · exact hf.o k hk
      · exact c
  · rename_i c
    refine ⟨Tb.put_nd hf.nd, fun k hk => ?_, fun k hk => ?_, fun k hk => ?_⟩
    · rcases Tb.put_mem.mp hk with hk | rfl
      · exact hf.h k hk
      · exact ⟨h0, h1⟩
    · rcases Tb.put_mem.mp hk with hk | rfl
      · exact hf.k k hk
      · exact ⟨ha, hb, hg⟩
    · rcases Tb.put_mem.mp hk with hk | rfl
      · exact hf.o k hk
      · exact strLt_tri (by simpa using c) ne.symm
theorem Tb.addAll4_gd {W : List Str} {N : Nat} {a b : Str} (ha : a ∈ W) (hb : b ∈ W) : ∀ {l f : Tb F4}, f.gd4 W N → (∀ p ∈ l, (0 ≤ p.1.1 ∧ p.1.1 < N) ∧ (p.1.2.1 ∈ W ∧ p.1.2.2.1 ∈ W ∧ p.1.2.2.2 ∈ W) ∧ p.1.2.1 ≠ p.1.2.2.1) → (f.addAll4 a b l).gd4 W N
  | [], f, h, _ => h
  | p :: l, f, h, hl => by
    obtain ⟨h0, ⟨h1, h2, h3⟩, h4⟩ := hl p List.mem_cons_self
    exact Tb.addAll4_gd (l := l) ha hb (Tb.add4_gd h h0.1 h0.2 (tside_mem h1 ha hb) (tside_mem h2 ha hb) h3 (tside_ne h4)) fun q hq => hl q (List.mem_cons_of_mem _ hq)
theorem Tb.gd4_all {W : List Str} {N : Nat} {f : Tb F4} (h : f.gd4 W N) : ∀ p ∈ f, (0 ≤ p.1.1 ∧ p.1.1 < N) ∧ (p.1.2.1 ∈ W ∧ p.1.2.2.1 ∈ W ∧ p.1.2.2.2 ∈ W) ∧ p.1.2.1 ≠ p.1.2.2.1 := fun p hp => by
  have m : p.1 ∈ f.ks := List.mem_map_of_mem hp
  refine ⟨h.h _ m, h.k _ m, fun e => ?_⟩
  have := h.o _ m
  rw [e, strLt_irr] at this; cases this
theorem hoursL_mem {rows : List Row} {q : Asked} {b e k : Int} : k ∈ hoursL rows q b e ↔ (b ≤ k ∧ k < e) ∧ q.val (rowAt rows k) = true := by
  unfold hoursL
  rw [List.mem_filter, List.mem_map]
  constructor
  · rintro ⟨⟨i, hi, rfl⟩, h⟩
    rw [List.mem_range] at hi
    exact ⟨⟨by omega, by omega⟩, h⟩
  · rintro ⟨⟨h1, h2⟩, h⟩
    exact ⟨⟨(k - b).toNat, List.mem_range.mpr (by omega), by omega⟩, h⟩
theorem hoursL_asc {rows : List Row} {q : Asked} {b e : Int} : (hoursL rows q b e).Pairwise (· < ·) := by
  unfold hoursL
  refine List.Pairwise.filter _ ?_
  rw [List.pairwise_map]
  exact List.pairwise_lt_range.imp fun h => by omega
theorem head_mem {α : Type} {l : List α} {h : α} (e : l.head? = some h) : h ∈ l := List.mem_of_head? e
theorem head_le {rows : List Row} {q : Asked} {b e h : Int} (z : (hoursL rows q b e).head? = some h) : ∀ k ∈ hoursL rows q b e, h ≤ k := by
  have := hoursL_asc (rows := rows) (q := q) (b := b) (e := e)
  cases l : hoursL rows q b e with
  | nil => rw [l] at z; cases z
  | cons x r =>
    rw [l] at z this
    cases z
    intro k hk
    rcases List.mem_cons.mp hk with rfl | hk
    · exact Int.le_refl _
    · have := (List.pairwise_cons.mp this).1 k hk; omega
theorem Con.fl_gd {W nms : List Str} {rows : List Row} {N : Nat} : ∀ {c : Con} {b e : Int} {f : Tb F4}, c.gd W nms → 0 ≤ b → e ≤ N → f.gd4 W N → (c.fl rows b e f).gd4 W N
  | .no, b, e, f, _, _, _, hf => hf
  | .give x y g t, b, e, f, hc, h0, h1, hf => by
    simp only [Con.fl]; split
    · exact hf
    · exact Tb.add4_gd hf h0 (by omega) hc.1.1 hc.1.2.1 hc.1.2.2.1 hc.1.2.2.2
  | .both x y, b, e, f, hc, h0, h1, hf => by
    simp only [Con.fl]; split
    · exact hf
    · exact Con.fl_gd hc.2 h0 h1 (Con.fl_gd hc.1 h0 h1 hf)
  | .turned p q x, b, e, f, hc, h0, h1, hf => by
    simp only [Con.fl]; split
    · exact hf
    · exact Tb.addAll4_gd hc.1.1 hc.1.2.1 hf (Tb.gd4_all (Con.fl_gd hc.2 h0 h1 Tb.gd4_nil))
  | .later n x, b, e, f, hc, h0, h1, hf => by
    simp only [Con.fl]; split
    · exact hf
    · have := hc.1
      exact Con.fl_gd hc.2 (by omega) h1 hf
  | .often n k x, b, e, f, hc, h0, h1, hf => by
    simp only [Con.fl]; split
    · exact hf
    · have hk := hc.1.2
      have : ∀ (l : List Nat) (f : Tb F4), f.gd4 W N → (l.foldl (fun f (i : Nat) => x.fl rows (b + (i : Int) * k) e f) f).gd4 W N := by
        intro l
        induction l with
        | nil => intro f hf; exact hf
        | cons i l ih =>
          intro f hf
          have : 0 ≤ (i : Int) * k := Int.mul_nonneg (by omega) (by omega)
          exact ih _ (Con.fl_gd hc.2 (by omega) h1 hf)
      exact this _ _ hf
  | .ite q x y, b, e, f, hc, h0, h1, hf => by
    simp only [Con.fl]; split
    · exact hf
    · split
      · exact Con.fl_gd hc.2.1 h0 h1 hf
      · exact Con.fl_gd hc.2.2 h0 h1 hf
  | .when q x, b, e, f, hc, h0, h1, hf => by
    simp only [Con.fl]; split
    · exact hf
    · split
      · exact hf
      · rename_i h z
        have := (hoursL_mem.mp (head_mem z)).1
        exact Con.fl_gd hc.2 (by omega) h1 hf
  | .till q x, b, e, f, hc, h0, h1, hf => by
    simp only [Con.fl]; split
    · exact hf
    · refine Con.fl_gd hc.2 h0 ?_ hf
      cases z : (hoursL rows q b e).head? with
      | none => exact h1
      | some h =>
        have := (hoursL_mem.mp (head_mem z)).1
        show h ≤ _; omega
def ent4 (p : F4 × Int) : List (List Key) := if 0 < p.2 then [[.inl p.1.1, .inr p.1.2.1, .inr p.1.2.2.1, .inr p.1.2.2.2, .inl p.2]] else if p.2 < 0 then [[.inl p.1.1, .inr p.1.2.2.1, .inr p.1.2.1, .inr p.1.2.2.2, .inl (0 - p.2)]] else []
def entries4 (f : Tb F4) : List (List Key) := f.flatMap ent4
def plainL (c : Con) (rows : List Row) : List (List Key) := srtL (entries4 (c.fl rows 0 rows.length []))

def spLPut : SpM := fun ds m Q _ => ∃ (sa : Addr) (h : Int) (a b g : Str) (n : Int) (f : Tb F4), ds = [.ref sa, .int h, .str a, .str b, .str g, .int n] ∧ m sa = some (f.o enc4) ∧ f.length < 2000000 ∧ Q .non (mput m sa ((f.add4 h a b g n).o enc4))
structure FlI (m : Mem) (c : Con) (b e : Int) (ra fa : Addr) (rs : List (Addr × Row)) (f : Tb F4) : Prop where
  x : ∃ W nms : List Str, (W.length ≤ 12 ∧ WOk W ∧ WOk nms) ∧ c.gd W nms ∧ f.gd4 W rs.length ∧ ∀ x ∈ rs, RowI x.2 nms
  r : rdM m ra = some (.lst (rs.map fun r => .ref r.1))
  rows : ∀ x ∈ rs, rdM m x.1 = some x.2.o
  f : m fa = some (f.o enc4)
  b0 : 0 ≤ b
  e1 : e ≤ rs.length
  len : rs.length ≤ 1000
  rk : c.rk ≤ 1000
def spFlows (n : Nat) : SpM := fun ds m Q _ => ∃ (c : Con) (b e : Int) (ra fa : Addr) (rs : List (Addr × Row)) (f : Tb F4), ds = [c.d, .int b, .ref ra, .int e, .ref fa] ∧ c.dp < n ∧ FlI m c b e ra fa rs f ∧ Q .non (mput m fa ((c.fl (rs.map (·.2)) b e f).o enc4))
theorem FlI.sub {m : Mem} {c x : Con} {b e b' e' : Int} {ra fa : Addr} {rs : List (Addr × Row)} {f : Tb F4} (h : FlI m c b e ra fa rs f) (hx : ∀ W nms, c.gd W nms → x.gd W nms) (hk : x.rk ≤ c.rk) (b0 : 0 ≤ b') (e1 : e' ≤ rs.length) : FlI m x b' e' ra fa rs f := by
  obtain ⟨⟨W, nms, h1, h2, h3, h4⟩, h5, h6, h7, h8, h9, h10, h11⟩ := h
  exact ⟨⟨W, nms, h1, hx _ _ h2, h3, h4⟩, h5, h6, h7, b0, e1, h10, Nat.le_trans hk h11⟩
theorem FlI.nd {m : Mem} {c : Con} {b e : Int} {ra fa : Addr} {rs : List (Addr × Row)} {f : Tb F4} (h : FlI m c b e ra fa rs f) : ra ≠ fa ∧ ∀ x ∈ rs, x.1 ≠ fa := by
  refine ⟨?_, fun x hx => ?_⟩
  · intro z
    have := h.r
    rw [z, rd_T h.f] at this; cases this
  · intro z
    have := h.rows x hx
    rw [z, rd_T h.f] at this; cases this
theorem FlI.put {m : Mem} {c x : Con} {b e b' e' : Int} {ra fa : Addr} {rs : List (Addr × Row)} {f f' : Tb F4} (h : FlI m c b e ra fa rs f) (hx : ∀ W nms, c.gd W nms → x.gd W nms) (hf : ∀ W nms, c.gd W nms → f.gd4 W rs.length → f'.gd4 W rs.length) (hk : x.rk ≤ c.rk) (b0 : 0 ≤ b') (e1 : e' ≤ rs.length) :
    FlI (mput m fa (f'.o enc4)) x b' e' ra fa rs f' := by
  obtain ⟨n1, n2⟩ := h.nd
  obtain ⟨⟨W, nms, h1, h2, h3, h4⟩, h5, h6, h7, h8, h9, h10, h11⟩ := h
  exact ⟨⟨W, nms, h1, hx _ _ h2, hf _ _ h2 h3, h4⟩, rdM_off n1 h5, fun x hx => rdM_off (n2 x hx) (h6 x hx), mput_same, b0, e1, h10, Nat.le_trans hk h11⟩
theorem FlI.at_ {m : Mem} {c : Con} {b e : Int} {ra fa : Addr} {rs : List (Addr × Row)} {f : Tb F4} (h : FlI m c b e ra fa rs f) {i : Int} (h0 : 0 ≤ i) (h1 : i < rs.length) : ∃ xa, atI (rs.map fun r => D.ref r.1) i = some (.ref xa) ∧ rdM m xa = some (rowAt (rs.map (·.2)) i).o ∧ (xa, rowAt (rs.map (·.2)) i) ∈ rs := by
  have hi : i.toNat < rs.length := by omega
  refine ⟨rs[i.toNat].1, ?_, ?_, ?_⟩
  · have := atI_nat (xs := rs.map fun r => D.ref r.1) (j := i.toNat) (v := D.ref rs[i.toNat].1) (by simp [hi])
    rw [Int.toNat_of_nonneg h0] at this; exact this
  · have e1 : rowAt (rs.map (·.2)) i = rs[i.toNat].2 := by unfold rowAt; simp [hi]
    rw [e1]; exact h.rows _ (List.getElem_mem hi)
  · have e1 : rowAt (rs.map (·.2)) i = rs[i.toNat].2 := by unfold rowAt; simp [hi]
    rw [e1]; exact List.getElem_mem hi
theorem Con.rk1 {x y : Con} : x.rk ≤ (Con.both x y).rk ∧ y.rk ≤ (Con.both x y).rk := ⟨by simp only [Con.rk]; omega, by simp only [Con.rk]; omega⟩
theorem keys4 {f : Tb F4} : keysO (f.o enc4) (f.map fun p => .tup [.int p.1.1, .str p.1.2.1, .str p.1.2.2.1, .str p.1.2.2.2]) := by
  refine ⟨?_, fun p hp => ?_⟩
  · unfold Tb.kvs; rw [List.map_map]; rfl
  · obtain ⟨q, _, rfl⟩ := List.mem_map.mp hp; exact ⟨enc4_n1, enc4_n5⟩
theorem place_merge {a b : Str} (n : a ≠ b) : mergeD [] ([(D.str a, D.str b), (D.str b, D.str a)].map keyP) = [(.inr a, .str b), (.inr b, .str a)] := by
  simp [mergeD, keyP, putD, n]
theorem place_get {a b x : Str} : (valD [((.inr a : Key), D.str b), (.inr b, .str a)] (.inr x)).getD (.str x) = .str (tside x a b) := by
  unfold valD tside
  by_cases h1 : x = a
  · subst h1; simp
  · have h1' : ¬ a = x := fun z => h1 z.symm
    by_cases h2 : x = b
    · subst h2; simp [h1, h1']
    · have h2' : ¬ b = x := fun z => h2 z.symm
      simp [h1, h1', h2, h2']
theorem hoursL_small {rows : List Row} {q : Asked} {b e : Int} (h0 : 0 ≤ b) (h1 : e ≤ 1000) : (hoursL rows q b e).length ≤ 1000 := by
  unfold hoursL
  refine Nat.le_trans (List.length_filter_le _ _) ?_
  rw [List.length_map, List.length_range]; omega
theorem ite_t {b : Bool} {P R : Prop} (h : if b = true then P else R) (e : b = true) : P := by rw [if_pos e] at h; exact h
theorem ite_f {b : Bool} {P R : Prop} (h : if b = true then P else R) (e : b = false) : R := by subst e; exact h
theorem rangeD_hours {rows : List Row} {t : Asked} {b e : Int} : ((rangeD b (e - b).toNat).filter fun d => match d with | .int k => t.val (rowAt rows k) | _ => false).map id = (hoursL rows t b e).map D.int := by
  unfold rangeD hoursL
  rw [List.map_id_fun, id, List.filter_map, List.filter_map, List.map_map]
  rfl
theorem ent4_len (p : F4 × Int) : (ent4 p).length ≤ 1 := by
  unfold ent4; split
  · exact Nat.le_refl _
  · split
    · exact Nat.le_refl _
    · exact Nat.zero_le _
theorem entries4_len : ∀ f : Tb F4, (entries4 f).length ≤ f.length
  | [] => Nat.le_refl _
  | p :: f => by
    have := ent4_len p
    have := entries4_len f
    unfold entries4 at this ⊢
    rw [List.flatMap_cons, List.length_append, List.length_cons]; omega
theorem ent4_sh {f : Tb F4} : ∀ x ∈ entries4 f, ∃ h a b c n, x = [.inl h, .inr a, .inr b, .inr c, .inl n] := fun x hx => by
  obtain ⟨p, _, h⟩ := List.mem_flatMap.mp hx
  unfold ent4 at h
  split at h
  · exact ⟨_, _, _, _, _, List.mem_singleton.mp h⟩
  · split at h
    · exact ⟨_, _, _, _, _, List.mem_singleton.mp h⟩
    · cases h
structure RowsI (m : Mem) (ra : Addr) (nms : List Str) (rs : List (Addr × Row)) : Prop where
  r : rdM m ra = some (.lst (rs.map fun r => .ref r.1))
  R : RowsR m nms rs
  n : rs.length ≤ 1000
def spLOwed (n : Nat) : SpM := fun ds m Q _ => ∃ (c : Con) (ra : Addr) (rs : List (Addr × Row)) (W nms : List Str), ds = [c.d, .ref ra] ∧ c.rk < n ∧ n ≤ 1000 ∧ ConI c W nms ∧ RowsI m ra nms rs ∧
  newO (.lst ((plainL c (rs.map (·.2))).map tupD)) m Q
/-! ### what a contract gives, as a function: the plain law of owed -/
abbrev Nt := Str → Str → Str → Int
def one3 (a b g : Str) (n : Int) : Nt := fun x y h => if x = a ∧ y = b ∧ h = g then n else if x = b ∧ y = a ∧ h = g then -n else 0
/-- what x gives y more than y x -/
def Tb.net (f : Tb Fk) : Nt := fun x y g => if strLt x y = true then f.at_ (x, y, g) else if strLt y x = true then -(f.at_ (y, x, g)) else 0
def Tb.net4 (f : Tb F4) (h : Int) : Nt := fun x y g => if strLt x y = true then f.at_ (h, x, y, g) else if strLt y x = true then -(f.at_ (h, y, x, g)) else 0
theorem strLt_ne {a b : Str} (h : strLt a b = true) : a ≠ b := by rintro rfl; rw [strLt_irr] at h; cases h
theorem one3_ts {a b g : Str} {n : Int} {x y h p q : Str} : one3 (tside a p q) (tside b p q) g n x y h = one3 a b g n (tside x p q) (tside y p q) h := by
  unfold one3
  have e : ∀ u v : Str, (u = tside v p q) = (tside u p q = v) := fun u v => propext ⟨fun z => by rw [z, tside_tside], fun z => by rw [← z, tside_tside]⟩
  simp only [e]
theorem one3_neg {a b g : Str} {n : Int} (ne : a ≠ b) {x y h : Str} : one3 b a g n x y h = one3 a b g (-n) x y h := by
  unfold one3
  by_cases h1 : x = a ∧ y = b ∧ h = g
  · obtain ⟨rfl, rfl, rfl⟩ := h1
    simp [ne]
  · by_cases h2 : x = b ∧ y = a ∧ h = g
    · obtain ⟨rfl, rfl, rfl⟩ := h2
      simp [Ne.symm ne]
    · simp [h1, h2]
section
variable {κ : Type} [DecidableEq κ] {mk : Str → Str → Str → κ}
theorem net_put (inj : ∀ a b c a' b' c', mk a b c = mk a' b' c' → a = a' ∧ b = b' ∧ c = c') {f : Tb κ} {a b g : Str} {n : Int} (lt : strLt a b = true) {x y h : Str} :
    (if strLt x y = true then (f.put (mk a b g) (f.at_ (mk a b g) + n)).at_ (mk x y h) else if strLt y x = true then -((f.put (mk a b g) (f.at_ (mk a b g) + n)).at_ (mk y x h)) else 0) =
    (if strLt x y = true then f.at_ (mk x y h) else if strLt y x = true then -(f.at_ (mk y x h)) else 0) + one3 a b g n x y h := by
  rw [Tb.at_put, Tb.at_put]
  unfold one3
  have ba := strLt_as lt
  by_cases h1 : strLt x y = true
  · rw [if_pos h1, if_pos h1]
    by_cases e : mk x y h = mk a b g
    · obtain ⟨rfl, rfl, rfl⟩ := inj _ _ _ _ _ _ e
      simp
    · rw [if_neg e, if_neg (fun z => e (by rw [z.1, z.2.1, z.2.2]))]
      rw [if_neg]
      · omega
      · rintro ⟨rfl, rfl, rfl⟩
        rw [ba] at h1; cases h1
  · rw [if_neg h1, if_neg h1]
    have n1 : ¬ (x = a ∧ y = b ∧ h = g) := by rintro ⟨rfl, rfl, rfl⟩; exact h1 lt
    rw [if_neg n1]
    by_cases h2 : strLt y x = true
    · rw [if_pos h2, if_pos h2]
      by_cases e : mk y x h = mk a b g
      · obtain ⟨rfl, rfl, rfl⟩ := inj _ _ _ _ _ _ e
        simp
        omega
      · rw [if_neg e, if_neg (fun z => e (by rw [z.1, z.2.1, z.2.2]))]
        omega
    · rw [if_neg h2, if_neg h2, if_neg]
      · rfl
      · rintro ⟨rfl, rfl, rfl⟩; exact h2 lt
end
theorem Tb.add_net {f : Tb Fk} {a b g : Str} {n : Int} (ne : a ≠ b) {x y h : Str} : (f.add a b g n).net x y h = f.net x y h + one3 a b g n x y h := by
  unfold Tb.add
  by_cases c : strLt b a = true
  · rw [if_pos c]
    unfold Tb.net
    rw [net_put (mk := fun a b c => (a, b, c)) (fun _ _ _ _ _ _ z => by cases z; exact ⟨rfl, rfl, rfl⟩) c, one3_neg ne]
    congr 2; omega
  · rw [if_neg c]
    exact net_put (mk := fun a b c => (a, b, c)) (fun _ _ _ _ _ _ z => by cases z; exact ⟨rfl, rfl, rfl⟩) (strLt_tri (by simpa using c) ne.symm)
theorem Tb.add4_net {f : Tb F4} {i : Int} {a b g : Str} {n : Int} (ne : a ≠ b) {j : Int} {x y h : Str} : (f.add4 i a b g n).net4 j x y h = f.net4 j x y h + if j = i then one3 a b g n x y h else 0 := by
  by_cases e : j = i
  · subst e
    rw [if_pos rfl]
    unfold Tb.add4
    by_cases c : strLt b a = true
    · rw [if_pos c]
      unfold Tb.net4
      rw [net_put (mk := fun a b c => (j, a, b, c)) (fun _ _ _ _ _ _ z => by cases z; exact ⟨rfl, rfl, rfl⟩) c, one3_neg ne]
      congr 2; omega
    · rw [if_neg c]
      exact net_put (mk := fun a b c => (j, a, b, c)) (fun _ _ _ _ _ _ z => by cases z; exact ⟨rfl, rfl, rfl⟩) (strLt_tri (by simpa using c) ne.symm)
  · rw [if_neg e, Int.add_zero]
    unfold Tb.add4
    have e' : ∀ a b c a' b' c' : Str, ¬ ((j, a, b, c) : F4) = (i, a', b', c') := fun _ _ _ _ _ _ z => e (congrArg Prod.fst z)
    split <;> (unfold Tb.net4; simp only [Tb.at_put, if_neg (e' _ _ _ _ _ _)])
/-- all that a list of flows comes to -/
def sumB (l : Tb Fk) : Nt := fun x y h => (l.map fun p => one3 p.1.1 p.1.2.1 p.1.2.2 p.2 x y h).sum
def sumB4 (l : Tb F4) (j : Int) : Nt := fun x y h => (l.map fun p => if j = p.1.1 then one3 p.1.2.1 p.1.2.2.1 p.1.2.2.2 p.2 x y h else 0).sum
theorem addAll_net {a b : Str} : ∀ {l f : Tb Fk} {x y h : Str}, (∀ p ∈ l, p.1.1 ≠ p.1.2.1) → (f.addAll a b l).net x y h = f.net x y h + sumB l (tside x a b) (tside y a b) h
  | [], f, x, y, h, _ => by simp [sumB, Tb.addAll]
  | p :: l, f, x, y, h, hl => by
    have ih := addAll_net (l := l) (f := f.add (tside p.1.1 a b) (tside p.1.2.1 a b) p.1.2.2 p.2) (x := x) (y := y) (h := h) (a := a) (b := b) fun q hq => hl q (List.mem_cons_of_mem _ hq)
    unfold Tb.addAll at ih ⊢
    rw [List.foldl_cons, ih, Tb.add_net (tside_ne (hl p List.mem_cons_self)), one3_ts]
    unfold sumB
    rw [List.map_cons, List.sum_cons]; omega
theorem addAll4_net {a b : Str} : ∀ {l f : Tb F4} {j : Int} {x y h : Str}, (∀ p ∈ l, p.1.2.1 ≠ p.1.2.2.1) → (f.addAll4 a b l).net4 j x y h = f.net4 j x y h + sumB4 l j (tside x a b) (tside y a b) h
  | [], f, j, x, y, h, _ => by simp [sumB4, Tb.addAll4]
  | p :: l, f, j, x, y, h, hl => by
    have ih := addAll4_net (l := l) (f := f.add4 p.1.1 (tside p.1.2.1 a b) (tside p.1.2.2.1 a b) p.1.2.2.2 p.2) (j := j) (x := x) (y := y) (h := h) (a := a) (b := b) fun q hq => hl q (List.mem_cons_of_mem _ hq)
    unfold Tb.addAll4 at ih ⊢
    rw [List.foldl_cons, ih, Tb.add4_net (tside_ne (hl p List.mem_cons_self)), one3_ts]
    unfold sumB4
    rw [List.map_cons, List.sum_cons]; omega
theorem at_cons {κ : Type} [DecidableEq κ] {p : κ × Int} {f : Tb κ} {k : κ} : Tb.at_ (p :: f) k = if p.1 = k then p.2 else Tb.at_ f k := by
  unfold Tb.at_
  rw [Tb.fd_cons]
  split <;> rfl
theorem at_none {κ : Type} [DecidableEq κ] {f : Tb κ} {k : κ} (h : k ∉ f.ks) : f.at_ k = 0 := by
  unfold Tb.at_
  rw [Tb.fd_none h]; rfl
theorem sumB_net : ∀ {l : Tb Fk}, l.ks.Nodup → (∀ k ∈ l.ks, strLt k.1 k.2.1 = true) → ∀ {x y h : Str}, sumB l x y h = l.net x y h
  | [], _, _, x, y, h => by
    unfold sumB Tb.net
    simp [Tb.at_, Tb.fd]
  | ((k1, k2, k3), n) :: l, nd, hl, x, y, h => by
    have nd' : (k1, k2, k3) ∉ Tb.ks l ∧ (Tb.ks l).Nodup := List.nodup_cons.mp nd
    have lt : strLt k1 k2 = true := hl (k1, k2, k3) List.mem_cons_self
    have ba := strLt_as lt
    have ih := sumB_net (l := l) nd'.2 (fun k hk => hl k (List.mem_cons_of_mem _ hk)) (x := x) (y := y) (h := h)
    have e0 : sumB (((k1, k2, k3), n) :: l) x y h = one3 k1 k2 k3 n x y h + sumB l x y h := by unfold sumB; rw [List.map_cons, List.sum_cons]
    rw [e0, ih]
    unfold Tb.net
    rw [at_cons, at_cons]
    unfold one3
    dsimp only
    by_cases h1 : strLt x y = true
    · rw [if_pos h1, if_pos h1]
      by_cases e : (k1, k2, k3) = (x, y, h)
      · cases e
        rw [if_pos ⟨rfl, rfl, rfl⟩, if_pos rfl, at_none nd'.1]; omega
      · rw [if_neg e, if_neg (fun z => e (by rw [z.1, z.2.1, z.2.2]))]
        rw [if_neg]
        · omega
        · rintro ⟨rfl, rfl, rfl⟩; rw [ba] at h1; cases h1
    · rw [if_neg h1, if_neg h1]
      have n1 : ¬ (x = k1 ∧ y = k2 ∧ h = k3) := by rintro ⟨rfl, rfl, rfl⟩; exact h1 lt
      rw [if_neg n1]
      by_cases h2 : strLt y x = true
      · rw [if_pos h2, if_pos h2]
        by_cases e : (k1, k2, k3) = (y, x, h)
        · cases e
          rw [if_pos ⟨rfl, rfl, rfl⟩, if_pos rfl, at_none nd'.1]; omega
        · rw [if_neg e, if_neg (fun z => e (by rw [z.1, z.2.1, z.2.2]))]; omega
      · rw [if_neg h2, if_neg h2, if_neg]
        · rfl
        · rintro ⟨rfl, rfl, rfl⟩; exact h2 lt
theorem sumB4_net : ∀ {l : Tb F4}, l.ks.Nodup → (∀ k ∈ l.ks, strLt k.2.1 k.2.2.1 = true) → ∀ {j : Int} {x y h : Str}, sumB4 l j x y h = l.net4 j x y h
  | [], _, _, j, x, y, h => by
    unfold sumB4 Tb.net4
    simp [Tb.at_, Tb.fd]
  | ((i, k1, k2, k3), n) :: l, nd, hl, j, x, y, h => by
    have nd' : (i, k1, k2, k3) ∉ Tb.ks l ∧ (Tb.ks l).Nodup := List.nodup_cons.mp nd
    have lt : strLt k1 k2 = true := hl (i, k1, k2, k3) List.mem_cons_self
    have ba := strLt_as lt
    have ih := sumB4_net (l := l) nd'.2 (fun k hk => hl k (List.mem_cons_of_mem _ hk)) (j := j) (x := x) (y := y) (h := h)
    have e0 : sumB4 (((i, k1, k2, k3), n) :: l) j x y h = (if j = i then one3 k1 k2 k3 n x y h else 0) + sumB4 l j x y h := by unfold sumB4; rw [List.map_cons, List.sum_cons]
    rw [e0, ih]
    unfold Tb.net4
    rw [at_cons, at_cons]
    by_cases ej : j = i
    · subst ej
      rw [if_pos rfl]
      unfold one3
      dsimp only
      by_cases h1 : strLt x y = true
      · rw [if_pos h1, if_pos h1]
        by_cases e : (j, k1, k2, k3) = (j, x, y, h)
        · cases e
          rw [if_pos ⟨rfl, rfl, rfl⟩, if_pos rfl, at_none nd'.1]; omega
        · rw [if_neg e, if_neg (fun z => e (by rw [z.1, z.2.1, z.2.2]))]
          rw [if_neg]
          · omega
          · rintro ⟨rfl, rfl, rfl⟩; rw [ba] at h1; cases h1
      · rw [if_neg h1, if_neg h1]
        have n1 : ¬ (x = k1 ∧ y = k2 ∧ h = k3) := by rintro ⟨rfl, rfl, rfl⟩; exact h1 lt
        rw [if_neg n1]
        by_cases h2 : strLt y x = true
        · rw [if_pos h2, if_pos h2]
          by_cases e : (j, k1, k2, k3) = (j, y, x, h)
          · cases e
            rw [if_pos ⟨rfl, rfl, rfl⟩, if_pos rfl, at_none nd'.1]; omega
          · rw [if_neg e, if_neg (fun z => e (by rw [z.1, z.2.1, z.2.2]))]; omega
        · rw [if_neg h2, if_neg h2, if_neg]
          · rfl
          · rintro ⟨rfl, rfl, rfl⟩; exact h2 lt
    · have e' : ∀ a b c a' b' c' : Str, ¬ ((i, a, b, c) : F4) = (j, a', b', c') := fun _ _ _ _ _ _ z => ej (congrArg Prod.fst z).symm
      rw [if_neg ej]
      simp only [if_neg (e' _ _ _ _ _ _), Int.zero_add]
/-- what is given in the first hour -/
def Con.hr (r : Row) : Con → Nt
  | .no => fun _ _ _ => 0
  | .give a b g t => one3 a b g (t.val r)
  | .both x y => fun s t g => x.hr r s t g + y.hr r s t g
  | .turned a b x => fun s t g => x.hr r (tside s a b) (tside t a b) g
  | .later h x => fun s t g => if h = 0 then x.hr r s t g else 0
  | .often _ _ x => x.hr r
  | .ite q x y => fun s t g => if q.val r = true then x.hr r s t g else y.hr r s t g
  | .when q x => fun s t g => if q.val r = true then x.hr r s t g else 0
  | .till q x => fun s t g => if q.val r = true then 0 else x.hr r s t g
theorem net_nil {x y g : Str} : Tb.net [] x y g = 0 := by unfold Tb.net; simp [Tb.at_, Tb.fd]
theorem net4_nil {j : Int} {x y g : Str} : Tb.net4 [] j x y g = 0 := by unfold Tb.net4; simp [Tb.at_, Tb.fd]
theorem Con.sums_net {W nms : List Str} {r : Row} : ∀ {c : Con} {f : Tb Fk}, c.gd W nms → ∀ {x y h : Str}, (c.sums r f).net x y h = f.net x y h + c.hr r x y h
  | .no, f, _, x, y, h => by simp [Con.sums, Con.hr]
  | .give a b g t, f, hc, x, y, h => Tb.add_net hc.1.2.2.2
  | .both u v, f, hc, x, y, h => by
    simp only [Con.sums, Con.hr]
    rw [Con.sums_net (c := v) hc.2, Con.sums_net (c := u) hc.1]; omega
  | .turned a b u, f, hc, x, y, h => by
    have hg := Con.sums_gd (r := r) (c := u) hc.2 Tb.gd_nil
    simp only [Con.sums, Con.hr]
    rw [addAll_net fun p hp => (Tb.gd_all hg p hp).2, sumB_net hg.nd hg.o, Con.sums_net (c := u) hc.2, net_nil]; omega
  | .later n u, f, hc, x, y, h => by
    simp only [Con.sums, Con.hr]
    split
    · exact Con.sums_net hc.2
    · omega
  | .often n k u, f, hc, x, y, h => Con.sums_net (c := u) hc.2
  | .ite q u v, f, hc, x, y, h => by
    simp only [Con.sums, Con.hr]
    split
    · exact Con.sums_net hc.2.1
    · exact Con.sums_net hc.2.2
  | .when q u, f, hc, x, y, h => by
    simp only [Con.sums, Con.hr]
    split
    · exact Con.sums_net hc.2
    · omega
  | .till q u, f, hc, x, y, h => by
    simp only [Con.sums, Con.hr]
    split
    · omega
    · exact Con.sums_net hc.2
/-- what is given in the hour j of a contract that begins at b, ahead of e -/
def Con.den (rows : List Row) : Con → Int → Int → Int → Nt
  | .no, _, _, _ => fun _ _ _ => 0
  | .give x y g t, b, e, j => fun s u h => if e ≤ b then 0 else if j = b then one3 x y g (t.val (rowAt rows b)) s u h else 0
  | .both x y, b, e, j => fun s u h => if e ≤ b then 0 else x.den rows b e j s u h + y.den rows b e j s u h
  | .turned p q x, b, e, j => fun s u h => if e ≤ b then 0 else x.den rows b e j (tside s p q) (tside u p q) h
  | .later n x, b, e, j => fun s u h => if e ≤ b then 0 else x.den rows (b + n) e j s u h
  | .often n k x, b, e, j => fun s u h => if e ≤ b then 0 else ((List.range n.toNat).map fun i : Nat => x.den rows (b + (i : Int) * k) e j s u h).sum
  | .ite q x y, b, e, j => fun s u h => if e ≤ b then 0 else if q.val (rowAt rows b) = true then x.den rows b e j s u h else y.den rows b e j s u h
  | .when q x, b, e, j => fun s u h => if e ≤ b then 0 else match (hoursL rows q b e).head? with
    | none => 0
    | some i => x.den rows i e j s u h
  | .till q x, b, e, j => fun s u h => if e ≤ b then 0 else x.den rows b ((hoursL rows q b e).head?.getD e) j s u h
theorem Con.fl_net {W nms : List Str} {rows : List Row} : ∀ {c : Con} {b e : Int} {f : Tb F4}, c.gd W nms → 0 ≤ b → ∀ {j : Int} {x y h : Str}, (c.fl rows b e f).net4 j x y h = f.net4 j x y h + c.den rows b e j x y h
  | .no, b, e, f, _, _, j, x, y, h => by simp [Con.fl, Con.den]
  | .give a b' g t, b, e, f, hc, h0, j, x, y, h => by
    simp only [Con.fl, Con.den]
    split
    · omega
    · exact Tb.add4_net hc.1.2.2.2
  | .both u v, b, e, f, hc, h0, j, x, y, h => by
    simp only [Con.fl, Con.den]
    split
    · omega
    · rw [Con.fl_net (c := v) hc.2 h0, Con.fl_net (c := u) hc.1 h0]; omega
  | .turned p q u, b, e, f, hc, h0, j, x, y, h => by
    have hg := Con.fl_gd (rows := rows) (N := e.toNat) (c := u) (b := b) (e := e) hc.2 h0 (by omega) Tb.gd4_nil
    simp only [Con.fl, Con.den]
    split
    · omega
    · rw [addAll4_net fun p hp => (Tb.gd4_all hg p hp).2.2, sumB4_net hg.nd hg.o, Con.fl_net (c := u) hc.2 h0, net4_nil]; omega
  | .later n u, b, e, f, hc, h0, j, x, y, h => by
    have := hc.1
    simp only [Con.fl, Con.den]
    split
    · omega
    · exact Con.fl_net hc.2 (by omega)
  | .often n k u, b, e, f, hc, h0, j, x, y, h => by
    have hk := hc.1.2
    simp only [Con.fl, Con.den]
    split
    · omega
    · have : ∀ (l : List Nat) (f : Tb F4), (l.foldl (fun f (i : Nat) => u.fl rows (b + (i : Int) * k) e f) f).net4 j x y h = f.net4 j x y h + (l.map fun i : Nat => u.den rows (b + (i : Int) * k) e j x y h).sum := by
        intro l
        induction l with
        | nil => intro f; simp
        | cons i l ih =>
          intro f
          have : 0 ≤ (i : Int) * k := Int.mul_nonneg (by omega) (by omega)
          rw [List.foldl_cons, ih, Con.fl_net (c := u) hc.2 (by omega), List.map_cons, List.sum_cons]; omega
      exact this _ _
  | .ite q u v, b, e, f, hc, h0, j, x, y, h => by
    simp only [Con.fl, Con.den]
    split
    · omega
    · split
      · exact Con.fl_net hc.2.1 h0
      · exact Con.fl_net hc.2.2 h0
  | .when q u, b, e, f, hc, h0, j, x, y, h => by
    simp only [Con.fl, Con.den]
    split
    · omega
    · cases z : (hoursL rows q b e).head? with
      | none => simp
      | some i =>
        have := (hoursL_mem.mp (head_mem z)).1
        exact Con.fl_net hc.2 (by omega)
  | .till q u, b, e, f, hc, h0, j, x, y, h => by
    simp only [Con.fl, Con.den]
    split
    · omega
    · exact Con.fl_net hc.2 h0

theorem Con.den_le {rows : List Row} {c : Con} {b e j : Int} (h : e ≤ b) {x y g : Str} : c.den rows b e j x y g = 0 := by
  cases c <;> simp only [Con.den, if_pos h]
theorem sum_zero {l : List Nat} {f : Nat → Int} (h : ∀ i ∈ l, f i = 0) : (l.map f).sum = 0 := by
  induction l with
  | nil => rfl
  | cons i l ih => rw [List.map_cons, List.sum_cons, h i List.mem_cons_self, ih fun j hj => h j (List.mem_cons_of_mem _ hj)]; rfl
theorem sum_eq {l : List Nat} {f g : Nat → Int} (h : ∀ i ∈ l, f i = g i) : (l.map f).sum = (l.map g).sum := by
  rw [List.map_congr_left h]
/-- ahead of its beginning, and behind the end, nothing is given -/
theorem Con.den_lt {W nms : List Str} {rows : List Row} : ∀ {c : Con} {b e j : Int}, c.gd W nms → (j < b ∨ e ≤ j) → ∀ {x y g : Str}, c.den rows b e j x y g = 0
  | .no, b, e, j, _, _, x, y, g => rfl
  | .give a b' g' t, b, e, j, hc, hj, x, y, g => by
    simp only [Con.den]
    split
    · rfl
    · rw [if_neg]; omega
  | .both u v, b, e, j, hc, hj, x, y, g => by
    simp only [Con.den]
    split
    · rfl
    · rw [Con.den_lt hc.1 hj, Con.den_lt hc.2 hj]; rfl
  | .turned p q u, b, e, j, hc, hj, x, y, g => by
    simp only [Con.den]
    split
    · rfl
    · exact Con.den_lt hc.2 hj
  | .later n u, b, e, j, hc, hj, x, y, g => by
    have := hc.1
    simp only [Con.den]
    split
    · rfl
    · exact Con.den_lt hc.2 (by omega)
  | .often n k u, b, e, j, hc, hj, x, y, g => by
    have := hc.1
    simp only [Con.den]
    split
    · rfl
    · refine sum_zero fun i _ => ?_
      have : 0 ≤ (i : Int) * k := Int.mul_nonneg (by omega) (by omega)
      exact Con.den_lt hc.2 (by omega)
  | .ite q u v, b, e, j, hc, hj, x, y, g => by
    simp only [Con.den]
    split
    · rfl
    · split
      · exact Con.den_lt hc.2.1 hj
      · exact Con.den_lt hc.2.2 hj
  | .when q u, b, e, j, hc, hj, x, y, g => by
    simp only [Con.den]
    split
    · rfl
    · cases z : (hoursL rows q b e).head? with
      | none => rfl
      | some i =>
        have := (hoursL_mem.mp (head_mem z)).1
        exact Con.den_lt hc.2 (by omega)
  | .till q u, b, e, j, hc, hj, x, y, g => by
    simp only [Con.den]
    split
    · rfl
    · refine Con.den_lt hc.2 ?_
      cases z : (hoursL rows q b e).head? with
      | none => exact hj
      | some i =>
        have := (hoursL_mem.mp (head_mem z)).1
        show j < b ∨ i ≤ j
        omega
theorem rowAt_succ {r : Row} {rs : List Row} {b : Int} (h : 0 ≤ b) : rowAt (r :: rs) (b + 1) = rowAt rs b := by
  unfold rowAt
  rw [show (b + 1).toNat = b.toNat + 1 by omega]
  simp
theorem rowAt_zero {r : Row} {rs : List Row} : rowAt (r :: rs) 0 = r := by
  unfold rowAt; simp
theorem hoursL_succ {r : Row} {rs : List Row} {q : Asked} {b e : Int} (h : 0 ≤ b) : hoursL (r :: rs) q (b + 1) (e + 1) = (hoursL rs q b e).map (· + 1) := by
  unfold hoursL
  rw [show (e + 1 - (b + 1)).toNat = (e - b).toNat by omega, List.filter_map, List.filter_map, List.map_map]
  have e1 : ∀ i : Nat, b + 1 + (i : Int) = (b + (i : Int)) + 1 := fun i => by omega
  have e2 : (List.range (e - b).toNat).filter ((fun k => q.val (rowAt (r :: rs) k)) ∘ fun i : Nat => b + 1 + (i : Int)) = (List.range (e - b).toNat).filter ((fun k => q.val (rowAt rs k)) ∘ fun i : Nat => b + (i : Int)) := by
    apply List.filter_congr
    intro i _
    show q.val (rowAt (r :: rs) (b + 1 + (i : Int))) = q.val (rowAt rs (b + (i : Int)))
    rw [e1, rowAt_succ (by omega)]
  rw [e2]
  apply List.map_congr_left
  intro i _
  show b + 1 + (i : Int) = b + (i : Int) + 1
  omega
theorem hoursL_head {r : Row} {rs : List Row} {q : Asked} {e : Int} (h : 0 ≤ e) : hoursL (r :: rs) q 0 (e + 1) = if q.val r = true then 0 :: (hoursL rs q 0 e).map (· + 1) else (hoursL rs q 0 e).map (· + 1) := by
  rw [← hoursL_succ (r := r) (Int.le_refl 0)]
  unfold hoursL
  rw [show (e + 1 - 0).toNat = (e + 1 - (0 + 1)).toNat + 1 by omega, List.range_succ_eq_map, List.map_cons, List.filter_cons, List.map_map]
  have e1 : rowAt (r :: rs) (0 + ((0 : Nat) : Int)) = r := rowAt_zero
  rw [e1]
  have e2 : ((fun i : Nat => (0 : Int) + (i : Int)) ∘ Nat.succ) = fun i : Nat => (0 : Int) + 1 + (i : Int) := by
    funext i
    show (0 : Int) + ((i + 1 : Nat) : Int) = _
    omega
  rw [e2]
  rfl
/-- one row more ahead -/
theorem Con.den_succ {W nms : List Str} {r : Row} {rs : List Row} : ∀ {c : Con} {b e j : Int}, c.gd W nms → 0 ≤ b → ∀ {x y g : Str}, c.den (r :: rs) (b + 1) (e + 1) (j + 1) x y g = c.den rs b e j x y g
  | .no, b, e, j, _, _, x, y, g => rfl
  | .give a b' g' t, b, e, j, hc, h0, x, y, g => by
    simp only [Con.den]
    rw [rowAt_succ h0]
    by_cases h : e ≤ b
    · rw [if_pos h, if_pos (by omega)]
    · rw [if_neg h, if_neg (by omega)]
      by_cases h2 : j = b
      · rw [if_pos h2, if_pos (by omega)]
      · rw [if_neg h2, if_neg (by omega)]
  | .both u v, b, e, j, hc, h0, x, y, g => by
    simp only [Con.den]
    rw [Con.den_succ hc.1 h0, Con.den_succ hc.2 h0]
    by_cases h : e ≤ b
    · rw [if_pos h, if_pos (by omega)]
    · rw [if_neg h, if_neg (by omega)]
  | .turned p q u, b, e, j, hc, h0, x, y, g => by
    simp only [Con.den]
    rw [Con.den_succ hc.2 h0]
    by_cases h : e ≤ b
    · rw [if_pos h, if_pos (by omega)]
    · rw [if_neg h, if_neg (by omega)]
  | .later n u, b, e, j, hc, h0, x, y, g => by
    have := hc.1
    simp only [Con.den]
    rw [show b + 1 + n = b + n + 1 by omega, Con.den_succ hc.2 (by omega)]
    by_cases h : e ≤ b
    · rw [if_pos h, if_pos (by omega)]
    · rw [if_neg h, if_neg (by omega)]
  | .often n k u, b, e, j, hc, h0, x, y, g => by
    have hk := hc.1
    simp only [Con.den]
    have : ((List.range n.toNat).map fun i : Nat => u.den (r :: rs) (b + 1 + (i : Int) * k) (e + 1) (j + 1) x y g).sum = ((List.range n.toNat).map fun i : Nat => u.den rs (b + (i : Int) * k) e j x y g).sum := sum_eq fun i _ => by
      have : 0 ≤ (i : Int) * k := Int.mul_nonneg (by omega) (by omega)
      rw [show b + 1 + (i : Int) * k = b + (i : Int) * k + 1 by omega, Con.den_succ hc.2 (by omega)]
    rw [this]
    by_cases h : e ≤ b
    · rw [if_pos h, if_pos (by omega)]
    · rw [if_neg h, if_neg (by omega)]
  | .ite q u v, b, e, j, hc, h0, x, y, g => by
    simp only [Con.den]
    rw [rowAt_succ h0, Con.den_succ hc.2.1 h0, Con.den_succ hc.2.2 h0]
    by_cases h : e ≤ b
    · rw [if_pos h, if_pos (by omega)]
    · rw [if_neg h, if_neg (by omega)]
  | .when q u, b, e, j, hc, h0, x, y, g => by
    simp only [Con.den]
    rw [hoursL_succ h0]
    by_cases h : e ≤ b
    · rw [if_pos h, if_pos (by omega)]
    · rw [if_neg h, if_neg (by omega), List.head?_map]
      cases z : (hoursL rs q b e).head? with
      | none => rfl
      | some i =>
        have := (hoursL_mem.mp (head_mem z)).1
        exact Con.den_succ hc.2 (by omega)
  | .till q u, b, e, j, hc, h0, x, y, g => by
    simp only [Con.den]
    rw [hoursL_succ h0]
    by_cases h : e ≤ b
    · rw [if_pos h, if_pos (by omega)]
    · rw [if_neg h, if_neg (by omega), List.head?_map]
      cases z : (hoursL rs q b e).head? with
      | none => exact Con.den_succ hc.2 h0
      | some i => exact Con.den_succ hc.2 h0
theorem den_both {rows : List Row} {x y : Con} {b e j : Int} {s t g : Str} : (Con.both x y).den rows b e j s t g = x.den rows b e j s t g + y.den rows b e j s t g := by
  by_cases h : e ≤ b
  · rw [Con.den_le h, Con.den_le h, Con.den_le h]; rfl
  · simp only [Con.den, if_neg h]
theorem den_bothOf {rows : List Row} {x y : Con} {b e j : Int} {s t g : Str} : (bothOf x y).den rows b e j s t g = x.den rows b e j s t g + y.den rows b e j s t g := by
  unfold bothOf
  split
  · rename_i h; rw [Con.isNo_iff.mp h]; simp [Con.den]
  · split
    · rename_i h; rw [Con.isNo_iff.mp h]; simp [Con.den]
    · exact den_both
theorem den_later {rows : List Row} {x : Con} {n b e j : Int} (h0 : 0 ≤ n) {s t g : Str} : (Con.later n x).den rows b e j s t g = x.den rows (b + n) e j s t g := by
  by_cases h : e ≤ b
  · rw [Con.den_le h, Con.den_le (by omega)]
  · simp only [Con.den, if_neg h]
theorem den_turned {rows : List Row} {x : Con} {p q : Str} {b e j : Int} {s t g : Str} : (Con.turned p q x).den rows b e j s t g = x.den rows b e j (tside s p q) (tside t p q) g := by
  by_cases h : e ≤ b
  · rw [Con.den_le h, Con.den_le h]
  · simp only [Con.den, if_neg h]
theorem den_often {rows : List Row} {x : Con} {n k b e j : Int} (hk : 0 ≤ k) {s t g : Str} : (Con.often n k x).den rows b e j s t g = ((List.range n.toNat).map fun i : Nat => x.den rows (b + (i : Int) * k) e j s t g).sum := by
  by_cases h : e ≤ b
  · rw [Con.den_le h]
    refine (sum_zero fun i _ => ?_).symm
    have : 0 ≤ (i : Int) * k := Int.mul_nonneg (by omega) hk
    exact Con.den_le (by omega)
  · simp only [Con.den, if_neg h]
/-- what is left gives what the whole gives then -/
theorem Con.den_rest {W nms : List Str} {r : Row} {rs : List Row} : ∀ {c : Con} {e j : Int}, c.gd W nms → 0 ≤ e → 0 ≤ j → ∀ {x y g : Str}, (c.rest r).den rs 0 e j x y g = c.den (r :: rs) 0 (e + 1) (j + 1) x y g
  | .no, e, j, _, _, _, x, y, g => rfl
  | .give a b' g' t, e, j, hc, h0, hj, x, y, g => by
    simp only [Con.den, Con.rest]
    split
    · rfl
    · rw [if_neg]; omega
  | .both u v, e, j, hc, h0, hj, x, y, g => by
    simp only [Con.rest]
    rw [den_bothOf, Con.den_rest hc.1 h0 hj, Con.den_rest hc.2 h0 hj, den_both]
  | .turned p q u, e, j, hc, h0, hj, x, y, g => by
    simp only [Con.rest]
    rw [den_turned, ← Con.den_rest hc.2 h0 hj]
    split
    · rename_i h; rw [Con.isNo_iff.mp h]; rfl
    · exact den_turned
  | .later n u, e, j, hc, h0, hj, x, y, g => by
    have hn := hc.1
    simp only [Con.rest]
    rw [den_later hn]
    split
    · rename_i h; rw [h, Con.den_rest hc.2 h0 hj]; rfl
    · rw [den_later (by omega), ← Con.den_succ (r := r) hc.2 (by omega)]
      rw [show 0 + (n - 1) + 1 = 0 + n by omega]
  | .often n k u, e, j, hc, h0, hj, x, y, g => by
    have hn := hc.1
    simp only [Con.rest]
    rw [den_often (by omega)]
    split
    · rename_i h
      subst h
      rw [Con.den_rest hc.2 h0 hj]
      simp
    · rw [den_bothOf, Con.den_rest hc.2 h0 hj, den_later (by omega), den_often (by omega)]
      rw [show n.toNat = (n - 1).toNat + 1 by omega, List.range_succ_eq_map, List.map_cons, List.sum_cons, List.map_map]
      congr 1
      · rw [show (0 : Int) + ((0 : Nat) : Int) * k = 0 by simp]
      · refine sum_eq fun i _ => ?_
        have : 0 ≤ (i : Int) * k := Int.mul_nonneg (by omega) (by omega)
        have e2 : ((i + 1 : Nat) : Int) * k = (i : Int) * k + k := by
          rw [Int.natCast_add, Int.add_mul]; simp
        show u.den rs (0 + (k - 1) + (i : Int) * k) e j x y g = u.den (r :: rs) (0 + ((i + 1 : Nat) : Int) * k) (e + 1) (j + 1) x y g
        rw [← Con.den_succ (r := r) hc.2 (by omega), e2, show 0 + (k - 1) + (i : Int) * k + 1 = 0 + ((i : Int) * k + k) by omega]
  | .ite q u v, e, j, hc, h0, hj, x, y, g => by
    have e1 : (Con.ite q u v).den (r :: rs) 0 (e + 1) (j + 1) x y g = if q.val (rowAt (r :: rs) 0) = true then u.den (r :: rs) 0 (e + 1) (j + 1) x y g else v.den (r :: rs) 0 (e + 1) (j + 1) x y g := by simp only [Con.den]; rw [if_neg (by omega)]
    rw [e1, rowAt_zero]
    simp only [Con.rest]
    by_cases h : q.val r = true
    · rw [if_pos h, if_pos h]; exact Con.den_rest hc.2.1 h0 hj
    · rw [if_neg h, if_neg h]; exact Con.den_rest hc.2.2 h0 hj
  | .when q u, e, j, hc, h0, hj, x, y, g => by
    simp only [Con.rest]
    have e1 : (Con.when q u).den (r :: rs) 0 (e + 1) (j + 1) x y g = match (hoursL (r :: rs) q 0 (e + 1)).head? with
      | none => 0
      | some i => u.den (r :: rs) i (e + 1) (j + 1) x y g := by simp only [Con.den]; rw [if_neg (by omega)]
    rw [e1, hoursL_head h0]
    split
    · exact Con.den_rest hc.2 h0 hj
    · rw [List.head?_map]
      simp only [Con.den]
      by_cases h : e ≤ 0
      · have : e = 0 := by omega
        subst this
        rw [if_pos h]
        rfl
      · rw [if_neg h]
        cases z : (hoursL rs q 0 e).head? with
        | none => rfl
        | some i =>
          have := (hoursL_mem.mp (head_mem z)).1
          exact (Con.den_succ hc.2 (by omega)).symm
  | .till q u, e, j, hc, h0, hj, x, y, g => by
    simp only [Con.rest]
    have e1 : (Con.till q u).den (r :: rs) 0 (e + 1) (j + 1) x y g = u.den (r :: rs) 0 ((hoursL (r :: rs) q 0 (e + 1)).head?.getD (e + 1)) (j + 1) x y g := by simp only [Con.den]; rw [if_neg (by omega)]
    rw [e1, hoursL_head h0]
    split
    · exact (Con.den_le (Int.le_refl 0)).symm
    · rw [List.head?_map]
      have e2 : (Option.map (· + 1) (hoursL rs q 0 e).head?).getD (e + 1) = (hoursL rs q 0 e).head?.getD e + 1 := by
        cases (hoursL rs q 0 e).head? <;> rfl
      have h1 : 0 ≤ (hoursL rs q 0 e).head?.getD e := by
        cases z : (hoursL rs q 0 e).head? with
        | none => exact h0
        | some i => have := (hoursL_mem.mp (head_mem z)).1; show 0 ≤ i; omega
      rw [e2, ← Con.den_rest hc.2 h1 hj]
      split
      · rename_i h; rw [Con.isNo_iff.mp h]; rfl
      · simp only [Con.den]
        split
        · rename_i h
          have : e = 0 := by omega
          subst this
          exact (Con.den_le (Int.le_refl 0)).symm
        · rfl
/-- the first hour -/
theorem Con.den_zero {W nms : List Str} {r : Row} {rs : List Row} : ∀ {c : Con} {e : Int}, c.gd W nms → 0 ≤ e → ∀ {x y g : Str}, c.hr r x y g = c.den (r :: rs) 0 (e + 1) 0 x y g
  | .no, e, _, _, x, y, g => rfl
  | .give a b' g' t, e, hc, h0, x, y, g => by
    simp only [Con.den, Con.hr, if_true]
    rw [if_neg (by omega), rowAt_zero]
  | .both u v, e, hc, h0, x, y, g => by
    rw [den_both, ← Con.den_zero hc.1 h0, ← Con.den_zero hc.2 h0]; rfl
  | .turned p q u, e, hc, h0, x, y, g => by
    rw [den_turned, ← Con.den_zero hc.2 h0]; rfl
  | .later n u, e, hc, h0, x, y, g => by
    have hn := hc.1
    rw [den_later hn]
    simp only [Con.hr]
    split
    · rename_i h; rw [h, Con.den_zero (rs := rs) hc.2 h0]; rfl
    · exact (Con.den_lt hc.2 (by omega)).symm
  | .often n k u, e, hc, h0, x, y, g => by
    have hn := hc.1
    rw [den_often (by omega), show n.toNat = (n - 1).toNat + 1 by omega, List.range_succ_eq_map, List.map_cons, List.sum_cons, List.map_map]
    have : ((List.range (n - 1).toNat).map ((fun i : Nat => u.den (r :: rs) (0 + (i : Int) * k) (e + 1) 0 x y g) ∘ Nat.succ)).sum = 0 := sum_zero fun i _ => by
      have h1 : 0 ≤ (i : Int) * k := Int.mul_nonneg (by omega) (by omega)
      have e2 : ((i + 1 : Nat) : Int) * k = (i : Int) * k + k := by
        rw [Int.natCast_add, Int.add_mul]; simp
      show u.den (r :: rs) (0 + ((i + 1 : Nat) : Int) * k) (e + 1) 0 x y g = 0
      rw [e2]
      exact Con.den_lt hc.2 (by omega)
    rw [this]
    show u.hr r x y g = _
    rw [Con.den_zero (rs := rs) hc.2 h0]
    simp
  | .ite q u v, e, hc, h0, x, y, g => by
    have e1 : (Con.ite q u v).den (r :: rs) 0 (e + 1) 0 x y g = if q.val (rowAt (r :: rs) 0) = true then u.den (r :: rs) 0 (e + 1) 0 x y g else v.den (r :: rs) 0 (e + 1) 0 x y g := by simp only [Con.den]; rw [if_neg (by omega)]
    rw [e1, rowAt_zero]
    simp only [Con.hr]
    by_cases h : q.val r = true
    · rw [if_pos h, if_pos h]; exact Con.den_zero hc.2.1 h0
    · rw [if_neg h, if_neg h]; exact Con.den_zero hc.2.2 h0
  | .when q u, e, hc, h0, x, y, g => by
    have e1 : (Con.when q u).den (r :: rs) 0 (e + 1) 0 x y g = match (hoursL (r :: rs) q 0 (e + 1)).head? with
      | none => 0
      | some i => u.den (r :: rs) i (e + 1) 0 x y g := by simp only [Con.den]; rw [if_neg (by omega)]
    rw [e1, hoursL_head h0]
    simp only [Con.hr]
    split
    · exact Con.den_zero hc.2 h0
    · rw [List.head?_map]
      cases z : (hoursL rs q 0 e).head? with
      | none => rfl
      | some i =>
        have := (hoursL_mem.mp (head_mem z)).1
        exact (Con.den_lt hc.2 (.inl (by show (0 : Int) < i + 1; omega))).symm
  | .till q u, e, hc, h0, x, y, g => by
    have e1 : (Con.till q u).den (r :: rs) 0 (e + 1) 0 x y g = u.den (r :: rs) 0 ((hoursL (r :: rs) q 0 (e + 1)).head?.getD (e + 1)) 0 x y g := by simp only [Con.den]; rw [if_neg (by omega)]
    rw [e1, hoursL_head h0]
    simp only [Con.hr]
    split
    · exact (Con.den_le (Int.le_refl 0)).symm
    · rw [List.head?_map]
      have e2 : (Option.map (· + 1) (hoursL rs q 0 e).head?).getD (e + 1) = (hoursL rs q 0 e).head?.getD e + 1 := by
        cases (hoursL rs q 0 e).head? <;> rfl
      have h1 : 0 ≤ (hoursL rs q 0 e).head?.getD e := by
        cases z : (hoursL rs q 0 e).head? with
        | none => exact h0
        | some i => have := (hoursL_mem.mp (head_mem z)).1; show 0 ≤ i; omega
      rw [e2]
      exact Con.den_zero hc.2 h1

/-! ### lists that tell a function -/
theorem ent3_mem {W : List Str} {f : Tb Fk} (hf : f.gd W) {a b g : Str} {n : Int} : [.inr a, .inr b, .inr g, .inl n] ∈ entries3 f ↔ 0 < n ∧ f.net a b g = n := by
  unfold entries3
  rw [List.mem_flatMap]
  constructor
  · rintro ⟨⟨⟨k1, k2, k3⟩, v⟩, hp, h⟩
    have lt : strLt k1 k2 = true := hf.o _ (List.mem_map_of_mem hp)
    have hat : f.at_ (k1, k2, k3) = v := by unfold Tb.at_; rw [Tb.fd_mem hf.nd hp]; rfl
    unfold ent3 at h
    dsimp only at h
    split at h
    · rw [List.mem_singleton] at h
      simp only [List.cons.injEq, Sum.inr.injEq, Sum.inl.injEq, and_true] at h
      obtain ⟨rfl, rfl, rfl, rfl⟩ := h
      exact ⟨by assumption, by unfold Tb.net; rw [if_pos lt]; exact hat⟩
    · split at h
      · rw [List.mem_singleton] at h
        simp only [List.cons.injEq, Sum.inr.injEq, Sum.inl.injEq, and_true] at h
        obtain ⟨rfl, rfl, rfl, rfl⟩ := h
        refine ⟨by omega, ?_⟩
        unfold Tb.net
        rw [if_neg (by rw [strLt_as lt]; exact Bool.false_ne_true), if_pos lt, hat]; omega
      · cases h
  · rintro ⟨h0, h⟩
    unfold Tb.net at h
    split at h
    · have hm : f.fd (a, b, g) = some n := by
        unfold Tb.at_ at h
        cases e : f.fd (a, b, g) with
        | none => rw [e] at h; simp at h; omega
        | some v => rw [e] at h; simp at h; rw [h]
      refine ⟨_, Tb.mem_fd hm, ?_⟩
      unfold ent3
      rw [if_pos h0]
      exact List.mem_singleton.mpr rfl
    · split at h
      · have hm : f.fd (b, a, g) = some (-n) := by
          unfold Tb.at_ at h
          cases e : f.fd (b, a, g) with
          | none => rw [e] at h; simp at h; omega
          | some v =>
            rw [e] at h
            have : v = -n := by simp at h; omega
            rw [this]
        refine ⟨_, Tb.mem_fd hm, ?_⟩
        unfold ent3
        dsimp only
        rw [if_neg (by omega), if_pos (by omega)]
        have : (0 : Int) - -n = n := by omega
        rw [this]
        exact List.mem_singleton.mpr rfl
      · omega
theorem ent4_mem {W : List Str} {N : Nat} {f : Tb F4} (hf : f.gd4 W N) {j : Int} {a b g : Str} {n : Int} : [.inl j, .inr a, .inr b, .inr g, .inl n] ∈ entries4 f ↔ 0 < n ∧ f.net4 j a b g = n := by
  unfold entries4
  rw [List.mem_flatMap]
  constructor
  · rintro ⟨⟨⟨k0, k1, k2, k3⟩, v⟩, hp, h⟩
    have lt : strLt k1 k2 = true := hf.o _ (List.mem_map_of_mem hp)
    have hat : f.at_ (k0, k1, k2, k3) = v := by unfold Tb.at_; rw [Tb.fd_mem hf.nd hp]; rfl
    unfold ent4 at h
    dsimp only at h
    split at h
    · rw [List.mem_singleton] at h
      simp only [List.cons.injEq, Sum.inr.injEq, Sum.inl.injEq, and_true] at h
      obtain ⟨rfl, rfl, rfl, rfl, rfl⟩ := h
      exact ⟨by assumption, by unfold Tb.net4; rw [if_pos lt]; exact hat⟩
    · split at h
      · rw [List.mem_singleton] at h
        simp only [List.cons.injEq, Sum.inr.injEq, Sum.inl.injEq, and_true] at h
        obtain ⟨rfl, rfl, rfl, rfl, rfl⟩ := h
        refine ⟨by omega, ?_⟩
        unfold Tb.net4
        rw [if_neg (by rw [strLt_as lt]; exact Bool.false_ne_true), if_pos lt, hat]; omega
      · cases h
  · rintro ⟨h0, h⟩
    unfold Tb.net4 at h
    split at h
    · have hm : f.fd (j, a, b, g) = some n := by
        unfold Tb.at_ at h
        cases e : f.fd (j, a, b, g) with
        | none => rw [e] at h; simp at h; omega
        | some v => rw [e] at h; simp at h; rw [h]
      refine ⟨_, Tb.mem_fd hm, ?_⟩
      unfold ent4
      rw [if_pos h0]
      exact List.mem_singleton.mpr rfl
    · split at h
      · have hm : f.fd (j, b, a, g) = some (-n) := by
          unfold Tb.at_ at h
          cases e : f.fd (j, b, a, g) with
          | none => rw [e] at h; simp at h; omega
          | some v =>
            rw [e] at h
            have : v = -n := by simp at h; omega
            rw [this]
        refine ⟨_, Tb.mem_fd hm, ?_⟩
        unfold ent4
        dsimp only
        rw [if_neg (by omega), if_pos (by omega)]
        have : (0 : Int) - -n = n := by omega
        rw [this]
        exact List.mem_singleton.mpr rfl
      · omega
theorem ent3_nd {W : List Str} {f : Tb Fk} (hf : f.gd W) : (entries3 f).Nodup := by
  unfold entries3 List.Nodup
  rw [List.pairwise_flatMap]
  refine ⟨fun p _ => ?_, ?_⟩
  · have := ent3_len p
    cases h : ent3 p with
    | nil => exact List.Pairwise.nil
    | cons x r =>
      rw [h, List.length_cons] at this
      have : r = [] := by cases r with | nil => rfl | cons _ _ => simp at this
      rw [this]; exact List.pairwise_singleton _ _
  · have h1 : f.Pairwise fun p q => p.1 ≠ q.1 := List.pairwise_map.mp hf.nd
    have h2 : f.Pairwise fun p q => (p ∈ f ∧ q ∈ f) ∧ p.1 ≠ q.1 := by
      refine List.Pairwise.imp_of_mem ?_ h1
      intro p q hp hq h; exact ⟨⟨hp, hq⟩, h⟩
    refine h2.imp ?_
    rintro ⟨⟨k1, k2, k3⟩, v⟩ ⟨⟨l1, l2, l3⟩, u⟩ ⟨⟨hp, hq⟩, ne⟩ x hx y hy e
    subst e
    have lt1 : strLt k1 k2 = true := hf.o _ (List.mem_map_of_mem hp)
    have lt2 : strLt l1 l2 = true := hf.o _ (List.mem_map_of_mem hq)
    unfold ent3 at hx hy
    dsimp only at hx hy
    repeat' split at hx
    all_goals repeat' split at hy
    all_goals first | (cases hx; done) | (cases hy; done) | skip
    all_goals
      rw [List.mem_singleton] at hx hy
      rw [hx] at hy
      simp only [List.cons.injEq, Sum.inr.injEq, Sum.inl.injEq, and_true] at hy
      obtain ⟨rfl, rfl, rfl, h4⟩ := hy
      first | exact ne rfl | (rw [strLt_as lt1] at lt2; cases lt2)
theorem ent4_nd {W : List Str} {N : Nat} {f : Tb F4} (hf : f.gd4 W N) : (entries4 f).Nodup := by
  unfold entries4 List.Nodup
  rw [List.pairwise_flatMap]
  refine ⟨fun p _ => ?_, ?_⟩
  · have := ent4_len p
    cases h : ent4 p with
    | nil => exact List.Pairwise.nil
    | cons x r =>
      rw [h, List.length_cons] at this
      have : r = [] := by cases r with | nil => rfl | cons _ _ => simp at this
      rw [this]; exact List.pairwise_singleton _ _
  · have h1 : f.Pairwise fun p q => p.1 ≠ q.1 := List.pairwise_map.mp hf.nd
    have h2 : f.Pairwise fun p q => (p ∈ f ∧ q ∈ f) ∧ p.1 ≠ q.1 := by
      refine List.Pairwise.imp_of_mem ?_ h1
      intro p q hp hq h; exact ⟨⟨hp, hq⟩, h⟩
    refine h2.imp ?_
    rintro ⟨⟨k0, k1, k2, k3⟩, v⟩ ⟨⟨l0, l1, l2, l3⟩, u⟩ ⟨⟨hp, hq⟩, ne⟩ x hx y hy e
    subst e
    have lt1 : strLt k1 k2 = true := hf.o _ (List.mem_map_of_mem hp)
    have lt2 : strLt l1 l2 = true := hf.o _ (List.mem_map_of_mem hq)
    unfold ent4 at hx hy
    dsimp only at hx hy
    repeat' split at hx
    all_goals repeat' split at hy
    all_goals first | (cases hx; done) | (cases hy; done) | skip
    all_goals
      rw [List.mem_singleton] at hx hy
      rw [hx] at hy
      simp only [List.cons.injEq, Sum.inr.injEq, Sum.inl.injEq, and_true] at hy
      obtain ⟨rfl, rfl, rfl, rfl, h4⟩ := hy
      first | exact ne rfl | (rw [strLt_as lt1] at lt2; cases lt2)
/-- a list that tells a function of hours, sides and goods -/
structure Tells (L : List (List Key)) (G : Int → Nt) : Prop where
  st : L.Pairwise fun x y => lexK x y = true
  sh : ∀ x ∈ L, ∃ j a b g n, x = [.inl j, .inr a, .inr b, .inr g, .inl n]
  m : ∀ j a b g n, [.inl j, .inr a, .inr b, .inr g, .inl n] ∈ L ↔ 0 < n ∧ G j a b g = n
theorem Tells.uniq {L M : List (List Key)} {G : Int → Nt} (h : Tells L G) (k : Tells M G) : L = M := strict_uniq h.st k.st fun x => by
  constructor
  · intro hx
    obtain ⟨j, a, b, g, n, rfl⟩ := h.sh x hx
    exact (k.m _ _ _ _ _).mpr ((h.m _ _ _ _ _).mp hx)
  · intro hx
    obtain ⟨j, a, b, g, n, rfl⟩ := k.sh x hx
    exact (h.m _ _ _ _ _).mpr ((k.m _ _ _ _ _).mp hx)
theorem Tells.of {W : List Str} {N : Nat} {f : Tb F4} (hf : f.gd4 W N) : Tells (srtL (entries4 f)) fun j => f.net4 j :=
  ⟨srtK_strict (srtL_srt _) ((srtL_perm _).nodup_iff.mpr (ent4_nd hf)), fun x hx => ent4_sh x ((srtL_perm _).mem_iff.mp hx), fun j a b g n => by rw [(srtL_perm _).mem_iff]; exact ent4_mem hf⟩
theorem plain_tells {c : Con} {W nms : List Str} {rows : List Row} (h : ConI c W nms) : Tells (plainL c rows) fun j => c.den rows 0 rows.length j := by
  have hg := Con.fl_gd (W := W) (nms := nms) (rows := rows) (N := rows.length) (c := c) (b := 0) (e := rows.length) h.g (Int.le_refl 0) (Int.le_refl _) Tb.gd4_nil
  have := Tells.of hg
  unfold plainL
  have e : (fun j => (c.fl rows 0 rows.length []).net4 j) = fun j => c.den rows 0 rows.length j := by
    funext j x y g
    rw [Con.fl_net h.g (Int.le_refl 0), net4_nil, Int.zero_add]
  rw [e] at this
  exact this
theorem hourL_mem {c : Con} {W nms : List Str} {r : Row} (h : ConI c W nms) {a b g : Str} {n : Int} : [.inr a, .inr b, .inr g, .inl n] ∈ hourL c r ↔ 0 < n ∧ c.hr r a b g = n := by
  have hg := Con.sums_gd (r := r) h.g Tb.gd_nil
  unfold hourL
  rw [(srtL_perm _).mem_iff, ent3_mem hg, Con.sums_net h.g, net_nil, Int.zero_add]
theorem hourL_st {c : Con} {W nms : List Str} {r : Row} (h : ConI c W nms) : (hourL c r).Pairwise fun x y => lexK x y = true :=
  srtK_strict (srtL_srt _) ((srtL_perm _).nodup_iff.mpr (ent3_nd (Con.sums_gd (r := r) h.g Tb.gd_nil)))
theorem hourL_sh {c : Con} {r : Row} : ∀ x ∈ hourL c r, ∃ a b g n, x = [.inr a, .inr b, .inr g, .inl n] := fun x hx => ent3_sh x ((srtL_perm _).mem_iff.mp hx)
theorem owed_tells {W nms : List Str} : ∀ {rows : List Row} {c : Con} {h : Int}, ConI c W nms → Tells (owedL c rows h) fun j => if h ≤ j then c.den rows 0 rows.length (j - h) else fun _ _ _ => 0
  | [], c, h, hc => ⟨List.Pairwise.nil, (fun x hx => nomatch hx), fun j a b g n => Iff.intro (fun hx => nomatch hx) fun z => by
      obtain ⟨h0, h1⟩ := z
      exfalso
      split at h1
      · rw [Con.den_le (show ((([] : List Row).length : Nat) : Int) ≤ 0 from Int.le_refl 0)] at h1; omega
      · have h1 : (0 : Int) = n := h1
        omega⟩
  | r :: rs, c, h, hc => by
    have ih := owed_tells (rows := rs) (h := h + 1) (hc.rest (r := r))
    have hz : ∀ j, (if h ≤ j then c.den (r :: rs) 0 (r :: rs).length (j - h) else fun _ _ _ => 0 : Nt) = if j = h then c.hr r else if h + 1 ≤ j then (c.rest r).den rs 0 rs.length (j - (h + 1)) else fun _ _ _ => 0 := fun j => by
      funext x y g
      have el : (((r :: rs).length : Nat) : Int) = (rs.length : Int) + 1 := by simp
      by_cases e1 : j = h
      · subst e1
        rw [if_pos (Int.le_refl _), if_pos rfl, el, Int.sub_self, ← Con.den_zero hc.g (by omega)]
      · rw [if_neg e1]
        by_cases e2 : h + 1 ≤ j
        · rw [if_pos (by omega), if_pos e2, el, Con.den_rest hc.g (by omega) (by omega)]
          rw [show j - h = j - (h + 1) + 1 by omega]
        · rw [if_neg (by omega), if_neg e2]
    refine ⟨?_, ?_, ?_⟩
    · rw [owedL, List.pairwise_append, List.pairwise_map]
      refine ⟨(hourL_st hc).imp fun {x y} z => by simpa [lexK] using z, ih.st, ?_⟩
      intro x hx y hy
      obtain ⟨x', _, rfl⟩ := List.mem_map.mp hx
      obtain ⟨j, a, b, g, n, rfl⟩ := ih.sh y hy
      obtain ⟨h1, h2⟩ := (ih.m _ _ _ _ _).mp hy
      have : h + 1 ≤ j := by
        split at h2
        · assumption
        · have h2 : (0 : Int) = n := h2
          omega
      have ne : ¬ (Sum.inl h : Key) = .inl j := fun z => by have := Sum.inl.inj z; omega
      simp only [lexK, if_neg ne, kLt]
      exact decide_eq_true (by omega)
    · intro x hx
      rw [owedL] at hx
      rcases List.mem_append.mp hx with hx | hx
      · obtain ⟨x', hx', rfl⟩ := List.mem_map.mp hx
        obtain ⟨a, b, g, n, rfl⟩ := hourL_sh x' hx'
        exact ⟨_, _, _, _, _, rfl⟩
      · exact ih.sh x hx
    · intro j a b g n
      rw [hz j, owedL, List.mem_append, ih.m]
      by_cases e : j = h
      · subst e
        rw [if_pos rfl]
        constructor
        · rintro (hx | ⟨h1, h2⟩)
          · obtain ⟨x', hx', e⟩ := List.mem_map.mp hx
            cases e
            exact (hourL_mem hc).mp hx'
          · rw [if_neg (by omega)] at h2
            have h2 : (0 : Int) = n := h2
            omega
        · intro z
          exact .inl (List.mem_map.mpr ⟨_, (hourL_mem hc).mpr z, rfl⟩)
      · rw [if_neg e]
        constructor
        · rintro (hx | z)
          · obtain ⟨x', hx', e2⟩ := List.mem_map.mp hx
            cases e2
            exact absurd rfl e
          · exact z
        · exact .inr
/-- owed tells what a plain reading comes to -/
theorem owed_plain {c : Con} {W nms : List Str} {rows : List Row} (h : ConI c W nms) : owedL c rows 0 = plainL c rows := by
  have h1 := owed_tells (rows := rows) (h := 0) h
  have h2 := plain_tells (rows := rows) h
  have e : (fun j => if 0 ≤ j then c.den rows 0 rows.length (j - 0) else fun _ _ _ => 0 : Int → Nt) = fun j => c.den rows 0 rows.length j := by
    funext j x y g
    split
    · rw [Int.sub_zero]
    · exact (Con.den_lt h.g (by omega)).symm
  rw [e] at h1
  exact h1.uniq h2

/-! ### what the laws share: drawn contracts are good ones; copies of rows; lists that are alike -/
def wordsOf (s : Dr) : List Str := (List.range 8).map fun j : Nat => wordOf s (j : Int)
theorem wordsOf_mem {s : Dr} {i : Int} (h0 : 0 ≤ i) (h1 : i < 8) : wordOf s i ∈ wordsOf s := List.mem_map.mpr ⟨i.toNat, List.mem_range.mpr (by omega), by rw [Int.toNat_of_nonneg h0]⟩
theorem wordsOf_ok {s : Dr} (B : DrB s) : WOk (wordsOf s) := fun x hx => by
  obtain ⟨j, _, rfl⟩ := List.mem_map.mp hx
  exact wordOf_ok B
theorem namesOf_ok {s : Dr} (B : DrB s) {n : Nat} : WOk (namesOf s n) := fun x hx => by
  obtain ⟨j, _, rfl⟩ := List.mem_map.mp hx
  exact wordOf_ok B
theorem wordsOf_len {s : Dr} : (wordsOf s).length = 8 := by unfold wordsOf; simp
theorem Con.of_gd {s : Dr} (B : DrB s) {nms : List Str} : ∀ {c : Con}, c.of (wordOf s) nms → c.gd (wordsOf s) nms
  | .no, _ => trivial
  | .give a b g t, ⟨⟨i, j, i0, i1, j0, j1, ne, ea, eb⟩, ⟨l, l0, l1, eg⟩, ht, hd⟩ => by
    subst ea eb eg
    exact ⟨⟨wordsOf_mem i0 (by omega), wordsOf_mem j0 (by omega), wordsOf_mem (by omega) l1, fun e => ne (wordOf_inj B i0 (by omega) j0 (by omega) e)⟩, ht, by omega⟩
  | .both x y, h => ⟨Con.of_gd B h.1, Con.of_gd B h.2⟩
  | .turned a b x, ⟨⟨i, j, i0, i1, j0, j1, ne, ea, eb⟩, h⟩ => by
    subst ea eb
    exact ⟨⟨wordsOf_mem i0 (by omega), wordsOf_mem j0 (by omega), fun e => ne (wordOf_inj B i0 (by omega) j0 (by omega) e)⟩, Con.of_gd B h⟩
  | .later n x, h => ⟨h.1.1, Con.of_gd B h.2⟩
  | .often n k x, h => ⟨⟨h.1.1, h.1.2.2.1⟩, Con.of_gd B h.2⟩
  | .ite q x y, h => ⟨⟨h.1.1, by have := h.1.2.1; omega, by have := h.1.2.2; omega⟩, Con.of_gd B h.2.1, Con.of_gd B h.2.2⟩
  | .when q x, h => ⟨⟨h.1.1, by have := h.1.2.1; omega, by have := h.1.2.2; omega⟩, Con.of_gd B h.2⟩
  | .till q x, h => ⟨⟨h.1.1, by have := h.1.2.1; omega, by have := h.1.2.2; omega⟩, Con.of_gd B h.2⟩
theorem Con.of_rk {wd : Int → Str} {nms : List Str} : ∀ {c : Con}, c.of wd nms → c.rk ≤ 11 * c.dp + 8
  | .no, _ => by simp only [Con.rk]; omega
  | .give a b g t, h => by have := h.2.2.2; simp only [Con.rk]; omega
  | .both x y, h => by have := Con.of_rk h.1; have := Con.of_rk h.2; simp only [Con.rk, Con.dp]; omega
  | .turned a b x, h => by have := Con.of_rk h.2; simp only [Con.rk, Con.dp]; omega
  | .later n x, h => by have := Con.of_rk h.2; have := Con.rk_later (h := n) (x := x); simp only [Con.dp]; omega
  | .often n k x, h => by have := Con.of_rk h.2; have := h.1.1; have := h.1.2.1; simp only [Con.rk, Con.dp]; omega
  | .ite q x y, h => by have := Con.of_rk h.2.1; have := Con.of_rk h.2.2; have := h.1.2.1; have := h.1.2.2; simp only [Con.rk, Con.dp]; omega
  | .when q x, h => by have := Con.of_rk h.2; have := h.1.2.1; have := h.1.2.2; simp only [Con.rk, Con.dp]; omega
  | .till q x, h => by have := Con.of_rk h.2; have := h.1.2.1; have := h.1.2.2; simp only [Con.rk, Con.dp]; omega
theorem Con.of_I {s : Dr} (B : DrB s) {n : Nat} {c : Con} (h : c.of (wordOf s) (namesOf s n)) : ConI c (wordsOf s) (namesOf s n) := ⟨⟨by rw [wordsOf_len]; omega, wordsOf_ok B, namesOf_ok B⟩, Con.of_gd B h⟩
theorem RowsAt.R {m : Mem} {nms : List Str} {rs : List (Addr × Row)} (h : RowsAt m nms rs) : RowsR m nms rs := ⟨fun r hr => ⟨rd_K (h.at_ r hr).1, (h.at_ r hr).2⟩⟩
/-- [dict(x) for x in rows] -/
theorem lc_dicts {chk : Mem → Prop} {ρ : StM} {m : Mem} {QA : List D → Mem → Prop} {i : Nat} {rs : List (Addr × Row)} (hchk : ∀ M, Sub m M → chk M) (hr : ∀ x ∈ rs, rdM m x.1 = some x.2.o) (hl : rs.length ≤ 1000)
    (h1 : ∀ d, ((wipeM ρ [i]).set i (some d))[i]? = some (some d)) (h2 : ∀ d, wipeM ((wipeM ρ [i]).set i (some d)) [i] = wipeM ρ [i])
    (q : ∀ M (rs' : List (Addr × Row)), rs'.map (·.2) = rs.map (·.2) → (∀ x ∈ rs', M x.1 = some x.2.o ∧ m x.1 = none) → Sub m M → QA (rs'.map fun r => .ref r.1) M) :
    lcC chk (gN i) wYes (wCB wDict1 (wCons (wVar i) wNil)) [i] ρ QA (rs.map fun r => .ref r.1) [] m := by
  refine lcC_ind (fun r acc M => ∃ (l1 l2 l3 : List (Addr × Row)), rs = l1 ++ l2 ∧ r = l2.map (fun r => D.ref r.1) ∧ acc = l3.map (fun r => D.ref r.1) ∧ l3.map (·.2) = l1.map (·.2) ∧ (∀ x ∈ l3, M x.1 = some x.2.o ∧ m x.1 = none) ∧ Sub m M)
    ⟨[], rs, [], rfl, rfl, rfl, rfl, (fun _ h => nomatch h), Sub.refl⟩ ?_ ?_
  · rintro acc M ⟨l1, l2, l3, e1, e2, rfl, e4, h3, sub⟩
    have : l2 = [] := by simpa using e2.symm
    subst this
    rw [List.append_nil] at e1
    subst e1
    exact ⟨hchk _ sub, q M l3 e4 h3 sub⟩
  · rintro d r acc M L hK ⟨l1, l2, l3, e1, e2, rfl, e4, h3, sub⟩
    cases l2 with
    | nil => cases e2
    | cons x l2 =>
      rw [List.map_cons] at e2
      cases e2
      refine ⟨hchk _ sub, h2 _, ⟨_, h1 _, ?_⟩⟩
      refine ⟨_, rdM_sub sub (hr x (by rw [e1]; simp)), fun p hp => ⟨?_, hK _ _ ⟨l1 ++ [x], l2, l3 ++ [(p, x.2)], by rw [e1]; simp, rfl, by simp, by simp [e4], ?_, Sub.new sub hp⟩⟩⟩
      · have h4 : l3.length = l1.length := by have := congrArg List.length e4; simpa using this
        have h5 : rs.length = l1.length + (l2.length + 1) := by rw [e1]; simp
        rw [List.length_map]
        exact small1000 (by omega)
      · intro y hy
        rcases List.mem_append.mp hy with hy | hy
        · exact ⟨mput_new hp (h3 y hy).1, (h3 y hy).2⟩
        · rw [List.mem_singleton] at hy
          subst hy
          exact ⟨mput_same, sub.none hp⟩
theorem al_key {m : Mem} {n : Nat} (k : Key) : Al m n (kD k) (kD k) := by
  cases k with
  | inl i => exact .int
  | inr x => exact .str
theorem al_keys {m : Mem} {n : Nat} : ∀ k : List Key, AlA m n (k.map kD) (k.map kD)
  | [] => .nil
  | k :: r => .cons (al_key k) (al_keys r)
theorem al_tups {m : Mem} {n : Nat} : ∀ L : List (List Key), (∀ x ∈ L, x.length ≤ 1000) → AlA m (n + 1) (L.map tupD) (L.map tupD)
  | [], _ => .nil
  | x :: L, h => .cons (.tup (by rw [List.length_map]; have := h x List.mem_cons_self; omega) (al_keys x)) (al_tups L fun y hy => h y (List.mem_cons_of_mem _ hy))
/-- two lists of the same tuples -/
theorem al_list {m : Mem} {a b : Addr} {L : List (List Key)} (h1 : rdM m a = some (.lst (L.map tupD))) (h2 : rdM m b = some (.lst (L.map tupD))) (hs : ∀ x ∈ L, x.length ≤ 1000) (hl : L.length ≤ 1000000) : Al m 2 (.ref a) (.ref b) :=
  .lst (by rw [List.length_map]; exact hl) h1 h2 (al_tups L hs)
theorem Tells.len5 {L : List (List Key)} {G : Int → Nt} (h : Tells L G) : ∀ x ∈ L, x.length ≤ 1000 := fun x hx => by
  obtain ⟨_, _, _, _, _, rfl⟩ := h.sh x hx
  show 5 ≤ 1000; omega
theorem owedL_len' {c : Con} {W nms : List Str} {rows : List Row} {h : Int} (hc : ConI c W nms) (hr : rows.length ≤ 500) : (owedL c rows h).length ≤ 1000000 := by
  have := owedL_len (rs := rows) (h := h) hc
  omega
theorem sameL_rows {m : Mem} {nms : List Str} : ∀ {rs rs' : List (Addr × Row)}, rs'.map (·.2) = rs.map (·.2) → (∀ x ∈ rs', m x.1 = some x.2.o) → (∀ x ∈ rs, m x.1 = some x.2.o ∧ RowI x.2 nms) → SameL m (rs'.map fun r => .ref r.1) (rs.map fun r => .ref r.1)
  | [], [], _, _, _ => trivial
  | x :: rs, y :: rs', e, h1, h2 => by
    rw [List.map_cons, List.map_cons] at e
    injection e with e1 e2
    refine ⟨⟨_, _, rfl, rfl, ?_⟩, sameL_rows e2 (fun z hz => h1 z (List.mem_cons_of_mem _ hz)) fun z hz => h2 z (List.mem_cons_of_mem _ hz)⟩
    have a := h1 y List.mem_cons_self
    obtain ⟨b, c⟩ := h2 x List.mem_cons_self
    rw [e1] at a
    exact row_sameD c a b
  | [], _ :: _, e, _, _ => by cases e
  | _ :: _, [], e, _, _ => by cases e
theorem RowsR.of_copy {m : Mem} {nms : List Str} {rs rs' : List (Addr × Row)} (e : rs'.map (·.2) = rs.map (·.2)) (h1 : ∀ x ∈ rs', m x.1 = some x.2.o) (h2 : ∀ x ∈ rs, RowI x.2 nms) : RowsR m nms rs' := ⟨fun x hx => by
  refine ⟨rd_K (h1 x hx), ?_⟩
  have : x.2 ∈ rs'.map (·.2) := List.mem_map_of_mem hx
  rw [e] at this
  obtain ⟨y, hy, e2⟩ := List.mem_map.mp this
  rw [← e2]; exact h2 y hy⟩
theorem spDrawn.mk {K : PySem.W.Frag} {m : Mem} {Q : KM} {Em : XM} {a : Addr} {s : Dr} {many : Int} (h0 : 0 ≤ many) (h4 : many ≤ 4) (I : DrI K m a s) (B : DrB s)
    (q : ∀ (c : Con) s' m', c.of (wordOf s) (namesOf s many.toNat) → c.dw → s.sw s' → DrI K m' a s' → DrN m' s' (namesOf s many.toNat) → Kp a m m' → Q c.d m') : spDrawn K [.ref a, .int many] m Q Em :=
  ⟨a, s, many.toNat, by rw [show ((many.toNat : Nat) : Int) = many by omega], by omega, I, B, q⟩

/-! ### more that the laws share -/
theorem spCon.mk {K : PySem.W.Frag} {m : Mem} {Q : KM} {Em : XM} {a : Addr} {s : Dr} {nms : List Str} {n dp : Nat} {x : Int} (I : DrI K m a s) (N : DrN m s nms) (B : DrB s) (e : x = dp) (h : dp < n)
    (q : ∀ (c : Con) s', c.of (wordOf s) nms → c.dp ≤ dp → s.nx s' → DrI K (mput m a s'.o) a s' → Q c.d (mput m a s'.o)) : spCon K n [.ref a, .int x] m Q Em :=
  ⟨a, dp, by rw [e], h, s, nms, I, N, B, fun d s' ⟨c, h1, h2, e⟩ n1 I1 => by rw [e]; exact q c s' h1 h2 n1 I1⟩
theorem spSides.mk {K : PySem.W.Frag} {m : Mem} {Q : KM} {Em : XM} {a : Addr} {s : Dr} {nms : List Str} (I : DrI K m a s) (N : DrN m s nms) (B : DrB s)
    (q : ∀ x y s', sidesOf (wordOf s) x y → s.nx s' → DrI K (mput m a s'.o) a s' → Q (.tup [.str x, .str y]) (mput m a s'.o)) : spSides K [.ref a] m Q Em :=
  ⟨a, rfl, s, nms, I, N, B, fun d s' ⟨x, y, h1, e⟩ n1 I1 => by rw [e]; exact q x y s' h1 n1 I1⟩
theorem spGood.mk {K : PySem.W.Frag} {m : Mem} {Q : KM} {Em : XM} {a : Addr} {s : Dr} {nms : List Str} (I : DrI K m a s) (N : DrN m s nms) (B : DrB s)
    (q : ∀ x s', goodOf (wordOf s) x → s.nx s' → DrI K (mput m a s'.o) a s' → Q (.str x) (mput m a s'.o)) : spGood K [.ref a] m Q Em :=
  ⟨a, rfl, s, nms, I, N, B, fun d s' ⟨x, h1, e⟩ n1 I1 => by rw [e]; exact q x s' h1 n1 I1⟩
theorem spGive.mk {K : PySem.W.Frag} {m : Mem} {Q : KM} {Em : XM} {a : Addr} {s : Dr} {nms : List Str} (I : DrI K m a s) (N : DrN m s nms) (B : DrB s)
    (q : ∀ x y g t s', (Con.give x y g t).of (wordOf s) nms → s.nx s' → DrI K (mput m a s'.o) a s' → Q (Con.give x y g t).d (mput m a s'.o)) : spGive K [.ref a] m Q Em :=
  ⟨a, rfl, s, nms, I, N, B, fun d s' ⟨c, h1, h2, e⟩ n1 I1 => by
    rw [e]
    cases c with
    | give x y g t => exact q x y g t s' h1 n1 I1
    | _ => exact h2.2.elim⟩
theorem spTold.mk {K : PySem.W.Frag} {m : Mem} {Q : KM} {Em : XM} {a : Addr} {s : Dr} {nms : List Str} {n dp : Nat} {x : Int} (I : DrI K m a s) (N : DrN m s nms) (e : x = dp) (h : dp < n)
    (q : ∀ (t : Told) s', t.dp ≤ dp → t.of nms → s.nx s' → DrI K (mput m a s'.o) a s' → Q t.d (mput m a s'.o)) : spTold K n [.ref a, .int x] m Q Em := ⟨a, s, nms, dp, by rw [e], h, I, N, q⟩
theorem spAsked.mk {K : PySem.W.Frag} {m : Mem} {Q : KM} {Em : XM} {a : Addr} {s : Dr} {nms : List Str} {n dp : Nat} {x : Int} (I : DrI K m a s) (N : DrN m s nms) (e : x = dp) (h : dp < n)
    (q : ∀ (t : Asked) s', t.dp ≤ dp → t.td ≤ 1 → t.of nms → s.nx s' → DrI K (mput m a s'.o) a s' → Q t.d (mput m a s'.o)) : spAsked K n [.ref a, .int x] m Q Em := ⟨a, s, nms, dp, by rw [e], h, I, N, q⟩
theorem spRows.mk {K : PySem.W.Frag} {m : Mem} {Q : KM} {Em : XM} {a : Addr} {s : Dr} {nms : List Str} {x : Int} (I : DrI K m a s) (N : DrN m s nms) (h0 : 0 ≤ x) (h1 : x ≤ 130)
    (q : ∀ p s' m' (rs : List (Addr × Row)), rs.length = x.toNat → m p = none → m' p = some (.lst (rs.map fun r => .ref r.1)) → RowsAt m' nms rs → (∀ r ∈ rs, m r.1 = none) → Kp a m m' → DrI K m' a s' → s.nx s' → Q (.ref p) m') : spRows K [.ref a, .int x] m Q Em :=
  ⟨a, s, nms, x.toNat, by rw [Int.toNat_of_nonneg h0], by omega, I, N, q⟩
theorem spWord.mk {K : PySem.W.Frag} {m : Mem} {Q : KM} {Em : XM} {a : Addr} {s : Dr} {k : Int} (I : DrI K m a s) (B : DrB s) (h0 : 0 ≤ k) (q : Q (.str (wordOf s k)) m) : spWord K [.ref a, .int k] m Q Em := ⟨a, s, k, rfl, I.rd, B, h0, q⟩
/-- a row of what is owed -/
def owK (j : Int) (a b g : Str) (n : Int) : List Key := [.inl j, .inr a, .inr b, .inr g, .inl n]
structure Ow (W : List Str) (N : Nat) (x : List Key) : Prop where
  e : ∃ j a b g n, x = [.inl j, .inr a, .inr b, .inr g, .inl n] ∧ (a ∈ W ∧ b ∈ W ∧ g ∈ W) ∧ a ≠ b ∧ 0 < n ∧ 0 ≤ j ∧ j < N
theorem ent3_in {W : List Str} {f : Tb Fk} (hf : f.gd W) : ∀ x ∈ entries3 f, ∃ a b g n, x = [.inr a, .inr b, .inr g, .inl n] ∧ (a ∈ W ∧ b ∈ W ∧ g ∈ W) ∧ a ≠ b ∧ 0 < n := fun x hx => by
  obtain ⟨p, hp, h⟩ := List.mem_flatMap.mp hx
  obtain ⟨⟨h1, h2, h3⟩, h4⟩ := Tb.gd_all hf p hp
  unfold ent3 at h
  split at h
  · exact ⟨_, _, _, _, List.mem_singleton.mp h, ⟨h1, h2, h3⟩, h4, by assumption⟩
  · split at h
    · exact ⟨_, _, _, _, List.mem_singleton.mp h, ⟨h2, h1, h3⟩, Ne.symm h4, by omega⟩
    · cases h
theorem ent4_in {W : List Str} {N : Nat} {f : Tb F4} (hf : f.gd4 W N) : ∀ x ∈ entries4 f, Ow W N x := fun x hx => by
  obtain ⟨p, hp, h⟩ := List.mem_flatMap.mp hx
  obtain ⟨⟨h5, h6⟩, ⟨h1, h2, h3⟩, h4⟩ := Tb.gd4_all hf p hp
  unfold ent4 at h
  split at h
  · exact ⟨_, _, _, _, _, List.mem_singleton.mp h, ⟨h1, h2, h3⟩, h4, by assumption, h5, h6⟩
  · split at h
    · exact ⟨_, _, _, _, _, List.mem_singleton.mp h, ⟨h2, h1, h3⟩, Ne.symm h4, by omega, h5, h6⟩
    · cases h
theorem owedL_in' {W nms : List Str} : ∀ {rows : List Row} {c : Con} {h : Int}, ConI c W nms → ∀ x ∈ owedL c rows h, ∃ j a b g n, x = [.inl j, .inr a, .inr b, .inr g, .inl n] ∧ (a ∈ W ∧ b ∈ W ∧ g ∈ W) ∧ a ≠ b ∧ 0 < n ∧ h ≤ j ∧ j < h + rows.length
  | [], _, _, _, x, hx => nomatch hx
  | r :: rs, c, h, hc, x, hx => by
    rw [owedL] at hx
    rcases List.mem_append.mp hx with hx | hx
    · obtain ⟨y, hy, rfl⟩ := List.mem_map.mp hx
      obtain ⟨a, b, g, n, rfl, h1, h2, h3⟩ := ent3_in (Con.sums_gd (r := r) hc.g Tb.gd_nil) y ((srtL_perm _).mem_iff.mp hy)
      exact ⟨h, a, b, g, n, rfl, h1, h2, h3, Int.le_refl _, by rw [List.length_cons]; omega⟩
    · obtain ⟨j, a, b, g, n, e, h1, h2, h3, h4, h5⟩ := owedL_in' (rows := rs) (hc.rest (r := r)) x hx
      exact ⟨j, a, b, g, n, e, h1, h2, h3, by omega, by rw [List.length_cons]; omega⟩
theorem owedL_in {W nms : List Str} {rows : List Row} {c : Con} (hc : ConI c W nms) : ∀ x ∈ owedL c rows 0, Ow W rows.length x := fun x hx => by
  obtain ⟨j, a, b, g, n, e, h1, h2, h3, h4, h5⟩ := owedL_in' hc x hx
  exact ⟨j, a, b, g, n, e, h1, h2, h3, h4, by omega⟩
/-- what is owed tells what is given -/
theorem owed_den {c : Con} {W nms : List Str} {rows : List Row} (h : ConI c W nms) : Tells (owedL c rows 0) fun j => c.den rows 0 rows.length j := by
  rw [owed_plain h]; exact plain_tells h
/-- the same function, the same list -/
theorem owed_same {c x : Con} {W nms W' nms' : List Str} {rows : List Row} (h : ConI c W nms) (k : ConI x W' nms') (e : ∀ j a b g, c.den rows 0 rows.length j a b g = x.den rows 0 rows.length j a b g) : owedL c rows 0 = owedL x rows 0 :=
  (owed_den h).uniq (by have := owed_den (rows := rows) k; rw [show (fun j => x.den rows 0 rows.length j) = fun j => c.den rows 0 rows.length j from (by funext j a b g; exact (e j a b g).symm)] at this; exact this)
def pdK : Key → PyData
  | .inl i => .int i
  | .inr x => .str x
theorem vw_key {m : Mem} (k : Key) : Vw m (kD k) (pdK k) := by
  cases k with
  | inl i => exact .int i
  | inr x => exact .str x
theorem vw_keys {m : Mem} : ∀ k : List Key, VwA m (k.map kD) (k.map pdK)
  | [] => .nil
  | k :: r => .cons (vw_key k) (vw_keys r)
theorem vw_tups {m : Mem} : ∀ L : List (List Key), VwA m (L.map tupD) (L.map fun k => .tuple (k.map pdK))
  | [] => .nil
  | k :: r => .cons (.tup (vw_keys k)) (vw_tups r)
def keyOk (k : Key) : Prop := match k with
  | .inl _ => True
  | .inr x => PyData.strOk x = true
theorem lay_keys : ∀ k : List Key, (∀ x ∈ k, keyOk x) → PyData.canLayAll0 (k.map pdK) = true ∧ PyData.depthAll (k.map pdK) = 0
  | [], _ => ⟨rfl, rfl⟩
  | k :: r, h => by
    obtain ⟨h1, h2⟩ := lay_keys r fun x hx => h x (List.mem_cons_of_mem _ hx)
    have h3 := h k List.mem_cons_self
    cases k with
    | inl i => exact ⟨by simp only [List.map_cons, pdK, PyData.canLayAll0, PyData.canLay0, h1, Bool.and_self], by simp only [List.map_cons, pdK, PyData.depthAll, PyData.depth, h2]; rfl⟩
    | inr x =>
      have h3 : PyData.strOk x = true := h3
      exact ⟨by simp only [List.map_cons, pdK, PyData.canLayAll0, PyData.canLay0, h1, h3, Bool.and_self], by simp only [List.map_cons, pdK, PyData.depthAll, PyData.depth, h2]; rfl⟩
theorem lay_tups : ∀ L : List (List Key), (∀ k ∈ L, ∀ x ∈ k, keyOk x) → PyData.canLayAll0 (L.map fun k => .tuple (k.map pdK)) = true ∧ PyData.depthAll (L.map fun k => .tuple (k.map pdK)) ≤ 1
  | [], _ => ⟨rfl, Nat.zero_le _⟩
  | k :: r, h => by
    obtain ⟨h1, h2⟩ := lay_tups r fun x hx => h x (List.mem_cons_of_mem _ hx)
    obtain ⟨h3, h4⟩ := lay_keys k (h k List.mem_cons_self)
    refine ⟨by simp only [List.map_cons, PyData.canLayAll0, PyData.canLay0, h1, h3, Bool.and_self], ?_⟩
    simp only [List.map_cons, PyData.depthAll, PyData.depth, h4]
    omega
/-- two lists of the same tuples are equal -/
theorem eq_tups {m : Mem} {a b : Addr} {L : List (List Key)} (h1 : rdM m a = some (.lst (L.map tupD))) (h2 : rdM m b = some (.lst (L.map tupD))) (ok : ∀ k ∈ L, ∀ x ∈ k, keyOk x) : EqB m (.ref a) (.ref b) true := by
  obtain ⟨h3, h4⟩ := lay_tups L ok
  have hl : PyData.canLay0 (.list (L.map fun k => .tuple (k.map pdK))) = true := by simp only [PyData.canLay0, h3]
  have hs : SeqAt.shaped (.list (L.map fun k => .tuple (k.map pdK))) = true := by
    unfold SeqAt.shaped
    rw [hl, Bool.true_and]
    refine decide_eq_true ?_
    simp only [PyData.depth]
    omega
  exact .inr (.inl ⟨_, _, .lst h1 (vw_tups L), .lst h2 (vw_tups L), hs, hs, (SeqAt.eqv_refl _ hl).symm⟩)
theorem Ow.ok {W : List Str} {N : Nat} (hW : WOk W) {x : List Key} (h : Ow W N x) : ∀ k ∈ x, keyOk k := by
  obtain ⟨j, a, b, g, n, rfl, ⟨h1, h2, h3⟩, _⟩ := h.e
  intro k hk
  simp only [List.mem_cons, List.not_mem_nil, or_false] at hk
  rcases hk with rfl | rfl | rfl | rfl | rfl
  · trivial
  · exact hW a h1
  · exact hW b h2
  · exact hW g h3
  · trivial

theorem cutL_map {α β : Type} {f : α → β} {xs : List α} {lo hi : Option Int} : cutL (xs.map f) lo hi = (cutL xs lo hi).map f := by
  unfold cutL; rw [List.length_map, List.map_take, List.map_drop]
theorem sIx_nat {n : Nat} {i : Int} {d : Nat} (h0 : 0 ≤ i) (h1 : i ≤ n) : HT.sIx n d (some i) = i.toNat := by
  show (if i < 0 then (i + (n : Int)).toNat else min i.toNat n) = i.toNat
  rw [if_neg (by omega)]; omega
theorem cutL_pre {α : Type} {xs : List α} {i : Int} (h0 : 0 ≤ i) (h1 : i ≤ xs.length) : cutL xs none (some i) = xs.take i.toNat := by
  unfold cutL
  rw [sIx_nat h0 h1, show HT.sIx xs.length 0 none = 0 from rfl, List.drop_zero, Nat.sub_zero]
theorem cutL_suf {α : Type} {xs : List α} {i : Int} (h0 : 0 ≤ i) (h1 : i ≤ xs.length) : cutL xs (some i) none = xs.drop i.toNat := by
  unfold cutL
  rw [sIx_nat h0 h1, show HT.sIx xs.length xs.length none = xs.length from rfl]
  exact List.take_of_length_le (by rw [List.length_drop]; omega)
theorem cutL_mid {α : Type} {xs : List α} {i j : Int} (h0 : 0 ≤ i) (h1 : i ≤ j) (h2 : j ≤ xs.length) : cutL xs (some i) (some j) = (xs.drop i.toNat).take (j.toNat - i.toNat) := by
  unfold cutL
  rw [sIx_nat h0 (by omega), sIx_nat (by omega) h2]
theorem RowsR.subl {m : Mem} {nms : List Str} {rs rs' : List (Addr × Row)} (h : RowsR m nms rs) (s : ∀ x ∈ rs', x ∈ rs) : RowsR m nms rs' := ⟨fun x hx => h.at_ x (s x hx)⟩

/-! ### rows of what is owed: their hours -/
def hourK (x : List Key) : Int := match x with
  | .inl j :: _ => j
  | _ => 0
def shiftK (h : Int) (x : List Key) : List Key := match x with
  | .inl j :: r => .inl (j + h) :: r
  | x => x
theorem owedL_shift {W nms : List Str} : ∀ {rows : List Row} {c : Con} {h k : Int}, (owedL c rows h).map (shiftK k) = owedL c rows (h + k)
  | [], _, _, _ => rfl
  | r :: rs, c, h, k => by
    have ih := owedL_shift (W := W) (nms := nms) (rows := rs) (c := c.rest r) (h := h + 1) (k := k)
    rw [owedL, owedL, List.map_append, List.map_map, ih, show h + 1 + k = h + k + 1 by omega]
    rfl
theorem owedL_hours {W nms : List Str} {rows : List Row} {c : Con} {h : Int} (hc : ConI c W nms) : ∀ x ∈ owedL c rows h, h ≤ hourK x ∧ hourK x < h + rows.length := fun x hx => by
  obtain ⟨j, a, b, g, n, e, h1, h2, h3, h4, h5⟩ := owedL_in' hc x hx
  subst e
  exact ⟨h4, h5⟩
theorem filter_all {α : Type} {p : α → Bool} {l : List α} (h : ∀ x ∈ l, p x = true) : l.filter p = l := List.filter_eq_self.mpr h
theorem filter_no {α : Type} {p : α → Bool} {l : List α} (h : ∀ x ∈ l, p x = false) : l.filter p = [] := List.filter_eq_nil_iff.mpr fun x hx => by rw [h x hx]; exact Bool.false_ne_true
/-- a part of what is owed, by its hours -/
theorem owedL_cut {W nms : List Str} {r1 r2 : List Row} {c : Con} {h : Int} (hc : ConI c W nms) {p : Int → Bool} (h1 : ∀ j, h ≤ j → j < h + r1.length → p j = true) (h2 : ∀ j, h + r1.length ≤ j → p j = false) :
    (owedL c (r1 ++ r2) h).filter (fun x => p (hourK x)) = owedL c r1 h := by
  rw [owedL_append, List.filter_append, filter_all fun x hx => h1 _ (owedL_hours hc x hx).1 (owedL_hours hc x hx).2, filter_no fun x hx => h2 _ (owedL_hours hc.restN x hx).1, List.append_nil]
theorem owedL_behind {W nms : List Str} {r1 r2 : List Row} {c : Con} {h : Int} (hc : ConI c W nms) {p : Int → Bool} (h1 : ∀ j, h ≤ j → j < h + r1.length → p j = false) (h2 : ∀ j, h + r1.length ≤ j → j < h + r1.length + r2.length → p j = true) :
    (owedL c (r1 ++ r2) h).filter (fun x => p (hourK x)) = owedL (restN c r1) r2 (h + r1.length) := by
  rw [owedL_append, List.filter_append, filter_no fun x hx => h1 _ (owedL_hours hc x hx).1 (owedL_hours hc x hx).2, filter_all fun x hx => h2 _ (owedL_hours hc.restN x hx).1 (owedL_hours hc.restN x hx).2, List.nil_append]
/-- of the form of what is owed -/
def Sh5 (L : List (List Key)) : Prop := ∀ x ∈ L, ∃ j a b g n, x = [.inl j, .inr a, .inr b, .inr g, .inl n]
theorem Sh5.filter {L : List (List Key)} (h : Sh5 L) (p : List Key → Bool) : Sh5 (L.filter p) := fun x hx => h x (List.mem_filter.mp hx).1
theorem Sh5.shift {L : List (List Key)} (h : Sh5 L) (k : Int) : Sh5 (L.map (shiftK k)) := fun x hx => by
  obtain ⟨y, hy, rfl⟩ := List.mem_map.mp hx
  obtain ⟨j, a, b, g, n, rfl⟩ := h y hy
  exact ⟨_, _, _, _, _, rfl⟩
theorem Sh5.append {L M : List (List Key)} (h : Sh5 L) (k : Sh5 M) : Sh5 (L ++ M) := fun x hx => (List.mem_append.mp hx).elim (h x) (k x)
theorem Sh5.len {L : List (List Key)} (h : Sh5 L) : ∀ x ∈ L, x.length ≤ 1000 := fun x hx => by
  obtain ⟨_, _, _, _, _, rfl⟩ := h x hx
  show 5 ≤ 1000; omega
theorem Tells.sh5 {L : List (List Key)} {G : Int → Nt} (h : Tells L G) : Sh5 L := h.sh
theorem owedL_sh5 {W nms : List Str} {rows : List Row} {c : Con} {h : Int} (hc : ConI c W nms) : Sh5 (owedL c rows h) := (owed_tells hc).sh
/-- hours at or behind one, later -/
def laterL (L : List (List Key)) (h l : Int) : List (List Key) := (L.filter fun x => decide (l ≤ hourK x)).map (shiftK h)
def spLater : SpM := fun ds m Q _ => ∃ (p : Addr) (h l : Int) (L : List (List Key)), ds = [.ref p, .int h, .int l] ∧ rdM m p = some (.lst (L.map tupD)) ∧ Sh5 L ∧ L.length ≤ 1000000 ∧ newO (.lst ((laterL L h l).map tupD)) m Q
theorem laterL_owed {W nms : List Str} {rows : List Row} {c : Con} {h : Int} (hc : ConI c W nms) : laterL (owedL c rows 0) h 0 = owedL c rows h := by
  unfold laterL
  rw [filter_all fun x hx => decide_eq_true (owedL_hours hc x hx).1, owedL_shift (W := W) (nms := nms), Int.zero_add]
/-- .. some of the rows, by their hours -/
theorem lc_hours {chk : Mem → Prop} {m : Mem} {L : List (List Key)} (p : Int → Bool) (hs : Sh5 L) : ((L.map tupD).filter fun d => match d with | .tup (.int j :: _) => p j | _ => false).map id = (L.filter fun x => p (hourK x)).map tupD := by
  rw [List.map_id_fun, id, List.filter_map]
  congr 1
  exact List.filter_congr fun x hx => by
    obtain ⟨j, a, b, g, n, rfl⟩ := hs x hx
    rfl

/-- [x for x in rows if ..] -/
theorem lc_filtG {chk : Mem → Prop} {ρ : StM} {m : Mem} {QA : List D → Mem → Prop} {tt : TTm} {i : Nat} {L : List (List Key)} (p : List Key → Bool) (hl : L.length ≤ 1000000) (hk : chk m)
    (h1 : ∀ d, ((wipeM ρ [i]).set i (some d))[i]? = some (some d)) (h2 : ∀ d, wipeM ((wipeM ρ [i]).set i (some d)) [i] = wipeM ρ [i])
    (ht : ∀ x ∈ L, ∀ R : Bool → Mem → Prop, R (p x) m → tt ((wipeM ρ [i]).set i (some (tupD x))) m R) (q : QA ((L.filter p).map tupD) m) : lcC chk (gN i) tt (wVar i) [i] ρ QA (L.map tupD) [] m := by
  have zz : 1000000 < sizeLine := by decide
  refine lcC_ind (fun r acc M => M = m ∧ ∃ l1 l2, L = l1 ++ l2 ∧ r = l2.map tupD ∧ acc = (l1.filter p).map tupD) ⟨rfl, [], L, rfl, rfl, rfl⟩ ?_ ?_
  · rintro acc M ⟨rfl, l1, l2, e1, e2, rfl⟩
    have : l2 = [] := by simpa using e2.symm
    subst this
    rw [List.append_nil] at e1
    subst e1
    exact ⟨hk, q⟩
  · rintro d r acc M K hK ⟨rfl, l1, l2, e1, e2, rfl⟩
    cases l2 with
    | nil => cases e2
    | cons x l2 =>
      rw [List.map_cons] at e2
      cases e2
      refine ⟨hk, h2 _, ht x (by rw [e1]; simp) _ ?_⟩
      have hlen : ((l1.filter p).map tupD).length < sizeLine := by
        have a1 : L.length = l1.length + (l2.length + 1) := by rw [e1]; simp
        have a2 := List.length_filter_le p l1
        rw [List.length_map]; omega
      cases hp : p x with
      | true =>
        rw [if_pos rfl]
        exact ⟨_, h1 _, hlen, hK _ _ ⟨rfl, l1 ++ [x], l2, by rw [e1]; simp, rfl, by simp [hp]⟩⟩
      | false =>
        rw [if_neg Bool.false_ne_true]
        exact hK _ _ ⟨rfl, l1 ++ [x], l2, by rw [e1]; simp, rfl, by simp [hp]⟩
theorem Con.ty {m : Mem} (c : Con) : tyD m c.d = some "tuple" := by cases c <;> rfl

/-! ### shorter spans of hours -/
theorem hoursL_end {rows : List Row} {q : Asked} {b e e' : Int} (h : e' ≤ e) : (hoursL rows q b e').head? = match (hoursL rows q b e).head? with
    | none => none
    | some i => if i < e' then some i else none := by
  cases z : (hoursL rows q b e).head? with
  | none =>
    have hn : hoursL rows q b e = [] := List.head?_eq_none_iff.mp z
    have : hoursL rows q b e' = [] := by
      rw [List.eq_nil_iff_forall_not_mem]
      intro k hk
      have h1 := hoursL_mem.mp hk
      have : k ∈ hoursL rows q b e := hoursL_mem.mpr ⟨⟨h1.1.1, by omega⟩, h1.2⟩
      rw [hn] at this; cases this
    rw [this]; rfl
  | some i =>
    have h1 := hoursL_mem.mp (head_mem z)
    have h2 := head_le z
    show _ = if i < e' then some i else none
    by_cases c : i < e'
    · rw [if_pos c]
      have hi : i ∈ hoursL rows q b e' := hoursL_mem.mpr ⟨⟨h1.1.1, c⟩, h1.2⟩
      cases z' : (hoursL rows q b e').head? with
      | none => rw [List.head?_eq_none_iff.mp z'] at hi; cases hi
      | some k =>
        have a1 := head_le z' i hi
        have a2 := hoursL_mem.mp (head_mem z')
        have a3 := h2 k (hoursL_mem.mpr ⟨⟨a2.1.1, by omega⟩, a2.2⟩)
        rw [show k = i by omega]
    · rw [if_neg c]
      rw [List.head?_eq_none_iff, List.eq_nil_iff_forall_not_mem]
      intro k hk
      have a2 := hoursL_mem.mp hk
      have a3 := h2 k (hoursL_mem.mpr ⟨⟨a2.1.1, by omega⟩, a2.2⟩)
      omega
/-- an earlier end changes nothing ahead of it -/
theorem Con.den_end {W nms : List Str} {rows : List Row} : ∀ {c : Con} {b e e' j : Int}, c.gd W nms → e' ≤ e → j < e' → ∀ {x y g : Str}, c.den rows b e' j x y g = c.den rows b e j x y g
  | .no, b, e, e', j, _, _, _, x, y, g => rfl
  | .give a b' g' t, b, e, e', j, hc, he, hj, x, y, g => by
    simp only [Con.den]
    by_cases h : e' ≤ b
    · rw [if_pos h]
      split
      · rfl
      · rw [if_neg]; omega
    · rw [if_neg h]
      by_cases h2 : e ≤ b
      · omega
      · rw [if_neg h2]
  | .both u v, b, e, e', j, hc, he, hj, x, y, g => by
    rw [den_both, den_both, Con.den_end hc.1 he hj, Con.den_end hc.2 he hj]
  | .turned p q u, b, e, e', j, hc, he, hj, x, y, g => by
    rw [den_turned, den_turned, Con.den_end hc.2 he hj]
  | .later n u, b, e, e', j, hc, he, hj, x, y, g => by
    rw [den_later hc.1, den_later hc.1, Con.den_end hc.2 he hj]
  | .often n k u, b, e, e', j, hc, he, hj, x, y, g => by
    have := hc.1.2
    rw [den_often (by omega), den_often (by omega)]
    exact sum_eq fun i _ => Con.den_end hc.2 he hj
  | .ite q u v, b, e, e', j, hc, he, hj, x, y, g => by
    simp only [Con.den]
    rw [Con.den_end hc.2.1 he hj, Con.den_end hc.2.2 he hj]
    by_cases h : e' ≤ b
    · rw [if_pos h]
      split
      · rfl
      · split
        · exact (Con.den_lt hc.2.1 (by omega)).symm
        · exact (Con.den_lt hc.2.2 (by omega)).symm
    · rw [if_neg h]
      by_cases h2 : e ≤ b
      · omega
      · rw [if_neg h2]
  | .when q u, b, e, e', j, hc, he, hj, x, y, g => by
    simp only [Con.den]
    rw [hoursL_end he]
    by_cases h : e' ≤ b
    · rw [if_pos h]
      split
      · rfl
      · cases z : (hoursL rows q b e).head? with
        | none => rfl
        | some i =>
          have := (hoursL_mem.mp (head_mem z)).1
          exact (Con.den_lt hc.2 (by omega)).symm
    · rw [if_neg h, if_neg (by omega)]
      cases z : (hoursL rows q b e).head? with
      | none => rfl
      | some i =>
        dsimp only
        by_cases c : i < e'
        · rw [if_pos c]; exact Con.den_end hc.2 he hj
        · rw [if_neg c]; exact (Con.den_lt hc.2 (by omega)).symm
  | .till q u, b, e, e', j, hc, he, hj, x, y, g => by
    simp only [Con.den]
    rw [hoursL_end he]
    by_cases h : e' ≤ b
    · rw [if_pos h]
      split
      · rfl
      · exact (Con.den_lt hc.2 (by omega)).symm
    · rw [if_neg h, if_neg (by omega)]
      cases z : (hoursL rows q b e).head? with
      | none => exact Con.den_end hc.2 he hj
      | some i =>
        dsimp only
        by_cases c : i < e'
        · rw [if_pos c]; rfl
        · rw [if_neg c]
          show u.den rows b e' j x y g = u.den rows b i j x y g
          exact Con.den_end hc.2 (by omega) hj
/-- where it begins later: of the rows from there on -/
theorem Con.den_drop {W nms : List Str} : ∀ {n : Nat} {rows : List Row} {c : Con} {e j : Int}, c.gd W nms → n ≤ rows.length → ∀ {x y g : Str}, c.den rows n e j x y g = c.den (rows.drop n) 0 (e - n) (j - n) x y g
  | 0, rows, c, e, j, _, _, x, y, g => by simp
  | n + 1, r :: rs, c, e, j, hc, hn, x, y, g => by
    have := Con.den_drop (n := n) (rows := rs) (e := e - 1) (j := j - 1) hc (by simpa using hn) (x := x) (y := y) (g := g)
    rw [List.drop_succ_cons, show e - ((n + 1 : Nat) : Int) = e - 1 - n by omega, show j - ((n + 1 : Nat) : Int) = j - 1 - n by omega, ← this]
    have h2 := Con.den_succ (r := r) (rs := rs) (b := (n : Int)) (e := e - 1) (j := j - 1) hc (by omega) (x := x) (y := y) (g := g)
    rw [← h2]
    congr 1
    · omega
    · omega
  | n + 1, [], c, e, j, hc, hn, x, y, g => by simp at hn
theorem Tells.filt {L : List (List Key)} {G : Int → Nt} (h : Tells L G) (p : Int → Bool) : Tells (L.filter fun x => p (hourK x)) fun j x y g => if p j = true then G j x y g else 0 :=
  ⟨h.st.filter _, fun x hx => h.sh x (List.mem_filter.mp hx).1, fun j a b g n => by
    rw [List.mem_filter, h.m]
    show (_ ∧ p j = true) ↔ _
    by_cases c : p j = true
    · rw [if_pos c]; exact ⟨fun z => z.1, fun z => ⟨z, c⟩⟩
    · rw [if_neg c]; exact ⟨fun z => absurd z.2 c, fun z => by omega⟩⟩
theorem Tells.nil : Tells [] fun _ _ _ _ => 0 := ⟨List.Pairwise.nil, (fun _ h => nomatch h), fun j a b g n => Iff.intro (fun h => nomatch h) fun ⟨h1, h2⟩ => by omega⟩
theorem Tells.cg {L : List (List Key)} {G G' : Int → Nt} (h : Tells L G) (e : ∀ j x y g, G j x y g = G' j x y g) : Tells L G' := by
  have : G = G' := by funext j x y g; exact e j x y g
  rw [← this]; exact h
theorem eqvAll_ints : ∀ a b : List Int, PyData.eqvAll (a.map .int) (b.map .int) = decide (a = b)
  | [], [] => rfl
  | [], _ :: _ => by simp [PyData.eqvAll]
  | _ :: _, [] => by simp [PyData.eqvAll]
  | x :: a, y :: b => by
    rw [List.map_cons, List.map_cons, PyData.eqvAll, eqvAll_ints a b]
    simp only [PyData.eqv]
    by_cases h1 : x = y
    · subst h1; simp
    · simp [h1]
theorem vw_ints {m : Mem} : ∀ a : List Int, VwA m (a.map .int) (a.map .int)
  | [] => .nil
  | x :: a => .cons (.int x) (vw_ints a)
theorem lay_ints : ∀ a : List Int, PyData.canLayAll0 (a.map .int) = true ∧ PyData.depthAll (a.map .int) = 0
  | [] => ⟨rfl, rfl⟩
  | x :: a => by
    obtain ⟨h1, h2⟩ := lay_ints a
    exact ⟨by rw [List.map_cons]; simp only [PyData.canLayAll0, PyData.canLay0, h1, Bool.and_self], by rw [List.map_cons]; simp only [PyData.depthAll, PyData.depth, h2]; rfl⟩
theorem shaped_ints (a : List Int) : SeqAt.shaped (.list (a.map .int)) = true := by
  obtain ⟨h1, h2⟩ := lay_ints a
  unfold SeqAt.shaped
  simp only [PyData.canLay0, h1, PyData.depth, h2]
  decide
theorem eq_ints {m : Mem} {a b : Addr} {L M : List Int} (h1 : rdM m a = some (.lst (L.map .int))) (h2 : rdM m b = some (.lst (M.map .int))) : EqB m (.ref a) (.ref b) (decide (L = M)) :=
  .inr (.inl ⟨_, _, .lst h1 (vw_ints L), .lst h2 (vw_ints M), shaped_ints L, shaped_ints M, by rw [← eqvAll_ints]; rfl⟩)
/-- an if whose two ways go on alike -/
theorem i_iteM {b : Bool} {t u : TSm} {E : EndsM} {ρ : StM} {m : Mem} (R : StM → Mem → Prop) (h1 : b = true → (∀ ρ' m', R ρ' m' → E.nx ρ' m') → t E ρ m) (h2 : b = false → (∀ ρ' m', R ρ' m' → E.nx ρ' m') → u E ρ m) (hk : ∀ ρ' m', R ρ' m' → E.nx ρ' m') : if b = true then t E ρ m else u E ρ m := by
  cases b with
  | true => rw [if_pos rfl]; exact h1 rfl hk
  | false => rw [if_neg Bool.false_ne_true]; exact h2 rfl hk
/-- the rows, by the hours at which a condition holds -/
theorem lc_holds {chk : Mem → Prop} {ρ : StM} {m : Mem} {QA : List D → Mem → Prop} {tt : TTm} {i : Nat} {rows : List Row} {q : Asked} {n : Nat} (hl : n ≤ 1000) (hk : chk m)
    (h1 : ∀ d, ((wipeM ρ [i]).set i (some d))[i]? = some (some d)) (h2 : ∀ d, wipeM ((wipeM ρ [i]).set i (some d)) [i] = wipeM ρ [i])
    (ht : ∀ j : Nat, j < n → ∀ R : Bool → Mem → Prop, R (q.val (rowAt rows (j : Int))) m → tt ((wipeM ρ [i]).set i (some (.int (j : Int)))) m R) (qq : QA ((hoursL rows q 0 n).map D.int) m) : lcC chk (gN i) tt (wVar i) [i] ρ QA (rangeD 0 n) [] m := by
  have e : (hoursL rows q 0 n).map D.int = ((List.range n).filter fun j : Nat => q.val (rowAt rows (j : Int))).map fun j : Nat => D.int (j : Int) := by
    unfold hoursL
    rw [List.filter_map, List.map_map, show ((n : Int) - 0).toNat = n by omega]
    have e1 : (List.range n).filter ((fun k => q.val (rowAt rows k)) ∘ fun i : Nat => (0 : Int) + (i : Int)) = (List.range n).filter fun j : Nat => q.val (rowAt rows (j : Int)) := by
      apply List.filter_congr
      intro j _
      show q.val (rowAt rows (0 + (j : Int))) = _
      rw [Int.zero_add]
    rw [e1]
    apply List.map_congr_left
    intro j _
    show D.int (0 + (j : Int)) = _
    rw [Int.zero_add]
  rw [e] at qq
  have zz : 1000 < sizeLine := by decide
  have er : rangeD 0 n = (List.range n).map fun j : Nat => D.int (j : Int) := by
    unfold rangeD
    apply List.map_congr_left
    intro j _
    show D.int (0 + (j : Int)) = _
    rw [Int.zero_add]
  rw [er]
  refine lcC_ind (fun r acc M => M = m ∧ ∃ l1 l2, List.range n = l1 ++ l2 ∧ r = l2.map (fun j : Nat => D.int (j : Int)) ∧ acc = (l1.filter fun j : Nat => q.val (rowAt rows (j : Int))).map fun j : Nat => D.int (j : Int)) ⟨rfl, [], List.range n, rfl, rfl, rfl⟩ ?_ ?_
  · rintro acc M ⟨rfl, l1, l2, e1, e2, rfl⟩
    have : l2 = [] := by simpa using e2.symm
    subst this
    rw [List.append_nil] at e1
    subst e1
    exact ⟨hk, qq⟩
  · rintro d r acc M K hK ⟨rfl, l1, l2, e1, e2, rfl⟩
    cases l2 with
    | nil => cases e2
    | cons j l2 =>
      rw [List.map_cons] at e2
      cases e2
      have hj : j < n := List.mem_range.mp (by rw [e1]; simp)
      refine ⟨hk, h2 _, ht j hj _ ?_⟩
      have hlen : ((l1.filter fun j : Nat => q.val (rowAt rows (j : Int))).map fun j : Nat => D.int (j : Int)).length < sizeLine := by
        have a1 : (List.range n).length = l1.length + (l2.length + 1) := by rw [e1]; simp
        have a2 := List.length_filter_le (fun j : Nat => q.val (rowAt rows (j : Int))) l1
        rw [List.length_range] at a1
        rw [List.length_map]; omega
      cases hp : q.val (rowAt rows (j : Int)) with
      | true =>
        rw [if_pos rfl]
        exact ⟨_, h1 _, hlen, hK _ _ ⟨rfl, l1 ++ [j], l2, by rw [e1]; simp, rfl, by simp [hp]⟩⟩
      | false =>
        rw [if_neg Bool.false_ne_true]
        exact hK _ _ ⟨rfl, l1 ++ [j], l2, by rw [e1]; simp, rfl, by simp [hp]⟩
theorem RowsR.atI {m : Mem} {nms : List Str} {rs : List (Addr × Row)} (h : RowsR m nms rs) {j : Nat} (hj : j < rs.length) : ∃ xa, atI (rs.map fun r => D.ref r.1) (j : Int) = some (.ref xa) ∧ rdM m xa = some (rowAt (rs.map (·.2)) (j : Int)).o ∧ RowI (rowAt (rs.map (·.2)) (j : Int)) nms := by
  have e1 : rowAt (rs.map (·.2)) (j : Int) = rs[j].2 := by unfold rowAt; simp [hj]
  obtain ⟨a, b⟩ := h.at_ _ (List.getElem_mem hj)
  exact ⟨rs[j].1, atI_nat (by simp [hj]), by rw [e1]; exact a, by rw [e1]; exact b⟩
/-- .. where the test lays new things -/
theorem lc_filtN {chk : Mem → Prop} {ρ : StM} {m : Mem} {QA : List D → Mem → Prop} {tt : TTm} {i : Nat} {L : List (List Key)} (p : List Key → Bool) (hl : L.length ≤ 1000000) (hk : ∀ M, Sub m M → chk M)
    (h1 : ∀ d, ((wipeM ρ [i]).set i (some d))[i]? = some (some d)) (h2 : ∀ d, wipeM ((wipeM ρ [i]).set i (some d)) [i] = wipeM ρ [i])
    (ht : ∀ x ∈ L, ∀ M, Sub m M → ∀ R : Bool → Mem → Prop, (∀ M', Sub M M' → R (p x) M') → tt ((wipeM ρ [i]).set i (some (tupD x))) M R) (q : ∀ M, Sub m M → QA ((L.filter p).map tupD) M) : lcC chk (gN i) tt (wVar i) [i] ρ QA (L.map tupD) [] m := by
  have zz : 1000000 < sizeLine := by decide
  refine lcC_ind (fun r acc M => Sub m M ∧ ∃ l1 l2, L = l1 ++ l2 ∧ r = l2.map tupD ∧ acc = (l1.filter p).map tupD) ⟨Sub.refl, [], L, rfl, rfl, rfl⟩ ?_ ?_
  · rintro acc M ⟨sub, l1, l2, e1, e2, rfl⟩
    have : l2 = [] := by simpa using e2.symm
    subst this
    rw [List.append_nil] at e1
    subst e1
    exact ⟨hk _ sub, q _ sub⟩
  · rintro d r acc M K hK ⟨sub, l1, l2, e1, e2, rfl⟩
    cases l2 with
    | nil => cases e2
    | cons x l2 =>
      rw [List.map_cons] at e2
      cases e2
      refine ⟨hk _ sub, h2 _, ht x (by rw [e1]; simp) M sub _ fun M' sub' => ?_⟩
      have hlen : ((l1.filter p).map tupD).length < sizeLine := by
        have a1 : L.length = l1.length + (l2.length + 1) := by rw [e1]; simp
        have a2 := List.length_filter_le p l1
        rw [List.length_map]; omega
      cases hp : p x with
      | true =>
        rw [if_pos rfl]
        exact ⟨_, h1 _, hlen, hK _ _ ⟨sub.trans sub', l1 ++ [x], l2, by rw [e1]; simp, rfl, by simp [hp]⟩⟩
      | false =>
        rw [if_neg Bool.false_ne_true]
        exact hK _ _ ⟨sub.trans sub', l1 ++ [x], l2, by rw [e1]; simp, rfl, by simp [hp]⟩
/-- x or y, whatever it comes to -/
theorem i_orM {b : Bool} {F : D → Mem → Prop} {G : Prop} {m : Mem} (g : (∀ b3, F (.bl b3) m) → G) (h : ∀ b3, F (.bl b3) m) : if b = true then F (.bl true) m else G := by
  cases b with
  | true => exact h true
  | false => exact g h

/-! ### contracts and what is within them -/
def Con.inn : Con → List Con
  | .no => []
  | .give _ _ _ _ => []
  | .both x y => [x, y]
  | .turned _ _ x => [x]
  | .later _ x => [x]
  | .often _ _ x => [x]
  | .ite _ x y => [x, y]
  | .when _ x => [x]
  | .till _ x => [x]
def hdC (l : List Con) : Con := l.headD .no
def Con.wIn (l : List Con) : Con → Con
  | .no => .no
  | .give a b g t => .give a b g t
  | .both _ _ => .both (hdC l) (hdC l.tail)
  | .turned a b _ => .turned a b (hdC l)
  | .later h _ => .later h (hdC l)
  | .often n k _ => .often n k (hdC l)
  | .ite q _ _ => .ite q (hdC l) (hdC l.tail)
  | .when q _ => .when q (hdC l)
  | .till q _ => .till q (hdC l)
def spWithin : SpM := fun ds m Q _ => ∃ c : Con, ds = [c.d] ∧ newO (.lst (c.inn.map Con.d)) m Q
abbrev s_within : Stmt := topS 7
theorem sc_within : FnScope ["contract", "word"] ["contract"] (defScope s_within) := ⟨rfl, rfl, rfl, by decide +kernel, rfl, by decide +kernel, by decide +kernel⟩
theorem ok_within {k : Nat} {f_within : Addr} {fd_within : FuncData} (F : Fun K "within" "within" s_within f_within fd_within) : FnM P w K mg base CX0 (k + 1) f_within fd_within ["contract"] (spWithin) := by
  refine fn_m F sc_within (fun ds m Q E h => ?_) (fun cdv A outer s H ds m Q E E' hr h => ?_)
  · obtain ⟨c, rfl, _⟩ := h; rfl
  have nd := sc_within.nd
  obtain ⟨c, rfl, q⟩ := h
  refine ⟨_, (mss_cons (ms_set (i := 1) nd rfl (.inl rfl) (mx_ix (mi_sub hr) (mv 0) mx_int))
    (mss_cons (ms_if (mw_pt (mw_or (mt_cmp (mo_eqq hr) (mv 1) mx_str (nomark _)) (mw_or1 (mt_cmp (mo_eqq hr) (mv 1) mx_str (nomark _))))) (mss_one (ms_ret (mx_lst ma_nil))) mss_nil)
    (mss_cons (ms_if (mt_cmp (mo_eqq hr) (mv 1) mx_str (nomark _)) (mss_one (ms_ret (mx_lst (ma_cons (mx_ix (mi_sub hr) (mv 0) mx_int) (ma_cons (mx_ix (mi_sub hr) (mv 0) mx_int) ma_nil))))) mss_nil)
    (mss_cons (ms_if (mt_cmp (mo_eqq hr) (mv 1) mx_str (nomark _)) (mss_one (ms_ret (mx_lst (ma_cons (mx_ix (mi_sub hr) (mv 0) mx_int) (ma_cons (mx_ix (mi_sub hr) (mv 0) mx_int) ma_nil))))) mss_nil)
    (mss_one (ms_ret (mx_lst (ma_cons (mx_ix (mi_sub hr) (mv 0) (mx_neg mx_int)) ma_nil)))))))), ?_⟩
  cases c <;> (simp only [Con.d]; wtm_at "go"; intro p hp; exact RtM.mk (q p hp))
theorem Con.inn_sh (c : Con) : c.inn = [] ∨ (∃ x, c.inn = [x]) ∨ ∃ x y, c.inn = [x, y] := by
  cases c
  · exact .inl rfl
  · exact .inl rfl
  · exact .inr (.inr ⟨_, _, rfl⟩)
  · exact .inr (.inl ⟨_, rfl⟩)
  · exact .inr (.inl ⟨_, rfl⟩)
  · exact .inr (.inl ⟨_, rfl⟩)
  · exact .inr (.inr ⟨_, _, rfl⟩)
  · exact .inr (.inl ⟨_, rfl⟩)
  · exact .inr (.inl ⟨_, rfl⟩)
def spWithInner : SpM := fun ds m Q _ => ∃ (c : Con) (p : Addr) (l : List Con), ds = [c.d, .ref p] ∧ rdM m p = some (.lst (l.map Con.d)) ∧ l.length = c.inn.length ∧ Q (c.wIn l).d m
abbrev s_with_inner : Stmt := topS 8
theorem sc_with_inner : FnScope ["contract", "inner", "word"] ["contract", "inner"] (defScope s_with_inner) := ⟨rfl, rfl, rfl, by decide +kernel, rfl, by decide +kernel, by decide +kernel⟩
theorem ok_with_inner {k : Nat} {f_with_inner : Addr} {fd_with_inner : FuncData} (F : Fun K "with_inner" "with_inner" s_with_inner f_with_inner fd_with_inner) : FnM P w K mg base CX0 (k + 1) f_with_inner fd_with_inner ["contract", "inner"] (spWithInner) := by
  refine fn_m F sc_with_inner (fun ds m Q E h => ?_) (fun cdv A outer s H ds m Q E E' hr h => ?_)
  · obtain ⟨c, p, l, rfl, _⟩ := h; rfl
  have nd := sc_with_inner.nd
  obtain ⟨c, p, l, rfl, hp, hl, q⟩ := h
  refine ⟨_, (mss_cons (ms_set (i := 2) nd rfl (.inl rfl) (mx_ix (mi_sub hr) (mv 0) mx_int))
    (mss_cons (ms_if (mw_pt (mw_or (mt_cmp (mo_eqq hr) (mv 2) mx_str (nomark _)) (mw_or1 (mt_cmp (mo_eqq hr) (mv 2) mx_str (nomark _))))) (mss_one (ms_ret (mv 0))) mss_nil)
    (mss_cons (ms_if (mt_cmp (mo_eqq hr) (mv 2) mx_str (nomark _)) (mss_one (ms_ret (mx_tup (ma_cons mx_str (ma_cons (mx_ix (mi_sub hr) (mv 1) mx_int) (ma_cons (mx_ix (mi_sub hr) (mv 1) mx_int) ma_nil)))))) mss_nil)
    (mss_cons (ms_if (mt_cmp (mo_eqq hr) (mv 2) mx_str (nomark _)) (mss_one (ms_ret (mx_tup (ma_cons mx_str (ma_cons (mx_ix (mi_sub hr) (mv 0) mx_int) (ma_cons (mx_ix (mi_sub hr) (mv 1) mx_int) (ma_cons (mx_ix (mi_sub hr) (mv 1) mx_int) ma_nil))))))) mss_nil)
    (mss_one (ms_ret (mx_op mo_plus (mx_slice (mv 0) mo_none (mo_some (mx_neg mx_int))) (mx_tup (ma_cons (mx_ix (mi_sub hr) (mv 1) mx_int) ma_nil))))))))), ?_⟩
  have q0 : RtM Q (c.wIn l).d m := RtM.mk q
  clear q
  cases c with
  | no => simp only [Con.d]; wtm_at "go"; all_goals exact q0
  | give a b g t => simp only [Con.d]; wtm_at "go"; all_goals exact q0
  | both x y =>
    obtain ⟨x', y', rfl⟩ : ∃ x' y', l = [x', y'] := by
      match l, hl with
      | [x', y'], _ => exact ⟨_, _, rfl⟩
    simp only [Con.d]; wtm_at "go"
    refine i_subL hp (d := x'.d) (atI_cons (i := 0) rfl) ?_
    wtm_at "go"
    refine i_subL hp (d := y'.d) (atI_cons (i := 1) rfl) ?_
    wtm_at "go"
    all_goals exact q0
  | ite t x y =>
    obtain ⟨x', y', rfl⟩ : ∃ x' y', l = [x', y'] := by
      match l, hl with
      | [x', y'], _ => exact ⟨_, _, rfl⟩
    simp only [Con.d]; wtm_at "go"
    refine i_subL hp (d := x'.d) (atI_cons (i := 0) rfl) ?_
    wtm_at "go"
    refine i_subL hp (d := y'.d) (atI_cons (i := 1) rfl) ?_
    wtm_at "go"
    all_goals exact q0
  | _ =>
    obtain ⟨x', rfl⟩ : ∃ x', l = [x'] := by
      match l, hl with
      | [x'], _ => exact ⟨_, rfl⟩
    simp only [Con.d]; wtm_at "go"
    refine i_subL hp (d := x'.d) (atI_cons (i := 0) rfl) ?_
    wtm_at "go"
    refine ⟨sl (by simp [cutL, HT.sIx]), ?_⟩
    all_goals exact q0
/-- a comprehension whose elements are called for: nothing is kept of what they lay -/
theorem lc_cons {chk : Mem → Prop} {ρ : StM} {m : Mem} {QA : List D → Mem → Prop} {te : TEm} {i : Nat} {l : List Con} (f : Con → Con) (hl : l.length ≤ 1000) (hk : chk m)
    (h2 : ∀ d, wipeM ((wipeM ρ [i]).set i (some d)) [i] = wipeM ρ [i])
    (he : ∀ x ∈ l, ∀ R : KM, R (f x).d m → te ((wipeM ρ [i]).set i (some x.d)) m R) (q : QA ((l.map f).map Con.d) m) : lcC chk (gN i) wYes te [i] ρ QA (l.map Con.d) [] m := by
  refine lcC_ind (fun r acc M => M = m ∧ ∃ l1 l2, l = l1 ++ l2 ∧ r = l2.map Con.d ∧ acc = (l1.map f).map Con.d) ⟨rfl, [], l, rfl, rfl, rfl⟩ ?_ ?_
  · rintro acc M ⟨rfl, l1, l2, e1, e2, rfl⟩
    have : l2 = [] := by simpa using e2.symm
    subst this
    rw [List.append_nil] at e1
    subst e1
    exact ⟨hk, q⟩
  · rintro d r acc M K hK ⟨rfl, l1, l2, e1, e2, rfl⟩
    cases l2 with
    | nil => cases e2
    | cons x l2 =>
      rw [List.map_cons] at e2
      cases e2
      refine ⟨hk, h2 _, ?_⟩
      show te _ _ _
      refine he x (by rw [e1]; simp) _ ⟨?_, hK _ _ ⟨rfl, l1 ++ [x], l2, by rw [e1]; simp, rfl, by simp⟩⟩
      have a1 : l.length = l1.length + (l2.length + 1) := by rw [e1]; simp
      rw [List.length_map, List.length_map]
      exact small1000 (by omega)
def Con.ofGood (g : Str) : Con → Con
  | .no => .no
  | .give a b h t => if h = g then .give a b h t else .no
  | .both x y => .both (x.ofGood g) (y.ofGood g)
  | .turned a b x => .turned a b (x.ofGood g)
  | .later h x => .later h (x.ofGood g)
  | .often n k x => .often n k (x.ofGood g)
  | .ite q x y => .ite q (x.ofGood g) (y.ofGood g)
  | .when q x => .when q (x.ofGood g)
  | .till q x => .till q (x.ofGood g)
theorem Con.ofGood_in {g : Str} {c : Con} (h : ∀ a b h t, c = .give a b h t → h = g) : c.wIn (c.inn.map (Con.ofGood g)) = c.ofGood g := by
  cases c with
  | give a b h' t => have := h _ _ _ _ rfl; simp only [Con.wIn, Con.ofGood, if_pos this]
  | _ => rfl
theorem Con.inn_dp {c x : Con} (h : x ∈ c.inn) : x.dp < c.dp := by
  cases c with
  | no => cases h
  | give a b g t => cases h
  | both x' y' =>
    simp only [Con.inn, List.mem_cons, List.not_mem_nil, or_false] at h
    rcases h with rfl | rfl <;> (simp only [Con.dp]; omega)
  | ite q x' y' =>
    simp only [Con.inn, List.mem_cons, List.not_mem_nil, or_false] at h
    rcases h with rfl | rfl <;> (simp only [Con.dp]; omega)
  | _ =>
    simp only [Con.inn, List.mem_cons, List.not_mem_nil, or_false] at h
    subst h
    simp only [Con.dp]; omega
def Con.tn : Con → Prop
  | .turned _ _ _ => True
  | _ => False
theorem Con.hd_ng {c : Con} (h : ¬ c.gv) : ∃ w r, c.d = .tup (.str w :: r) ∧ w ≠ "give" := by
  cases c with
  | give a b g t => exact (h trivial).elim
  | _ => exact ⟨_, _, rfl, by rw [Ne, ofString_inj]; decide⟩
theorem Con.hd_nt {c : Con} (h : ¬ c.tn) : ∃ w r, c.d = .tup (.str w :: r) ∧ w ≠ "turned" := by
  cases c with
  | turned a b g => exact (h trivial).elim
  | _ => exact ⟨_, _, rfl, by rw [Ne, ofString_inj]; decide⟩
def spOfGood (n : Nat) : SpM := fun ds m Q _ => ∃ (c : Con) (g : Str), ds = [c.d, .str g] ∧ c.dp < n ∧ Q (c.ofGood g).d m
theorem Con.inn_len (c : Con) : c.inn.length ≤ 1000 := by rcases c.inn_sh with h | ⟨_, h⟩ | ⟨_, _, h⟩ <;> (rw [h]; simp)
def Con.ofSide (s : Str) : Con → Con
  | .no => .no
  | .give a b h t => if s = a ∨ s = b then .give a b h t else .no
  | .both x y => .both (x.ofSide s) (y.ofSide s)
  | .turned a b x => .turned a b (x.ofSide (tside s a b))
  | .later h x => .later h (x.ofSide s)
  | .often n k x => .often n k (x.ofSide s)
  | .ite q x y => .ite q (x.ofSide s) (y.ofSide s)
  | .when q x => .when q (x.ofSide s)
  | .till q x => .till q (x.ofSide s)
theorem Con.ofSide_in {s : Str} {c : Con} (h1 : ¬ c.gv) (h2 : ¬ c.tn) : c.wIn (c.inn.map (Con.ofSide s)) = c.ofSide s := by
  cases c with
  | give a b h' t => exact (h1 trivial).elim
  | turned a b x => exact (h2 trivial).elim
  | _ => rfl
def spOfSide (n : Nat) : SpM := fun ds m Q _ => ∃ (c : Con) (g : Str), ds = [c.d, .str g] ∧ c.dp < n ∧ Q (c.ofSide g).d m
/-! ### a contract, part by part -/
inductive Pt where
  | wo (x : Str) | nu (i : Int) | asq (q : Asked) | tol (t : Told) | co (x : Con)
def Pt.d : Pt → D
  | .wo x => .str x
  | .nu i => .int i
  | .asq q => q.d
  | .tol t => t.d
  | .co x => x.d
def Con.wd : Con → Str
  | .no => "none"
  | .give _ _ _ _ => "give"
  | .both _ _ => "both"
  | .turned _ _ _ => "turned"
  | .later _ _ => "later"
  | .often _ _ _ => "often"
  | .ite _ _ _ => "if"
  | .when _ _ => "when"
  | .till _ _ => "until"
def Con.pts : Con → List Pt
  | .no => []
  | .give a b g t => [.wo a, .wo b, .wo g, .tol t]
  | .both x y => [.co x, .co y]
  | .turned a b x => [.wo a, .wo b, .co x]
  | .later h x => [.nu h, .co x]
  | .often n k x => [.nu n, .nu k, .co x]
  | .ite q x y => [.asq q, .co x, .co y]
  | .when q x => [.asq q, .co x]
  | .till q x => [.asq q, .co x]
theorem Con.d_pts (c : Con) : c.d = .tup (.str c.wd :: c.pts.map Pt.d) := by cases c <;> rfl
def mapC (f : Con → Con) : Pt → Pt
  | .co x => .co (f x)
  | p => p
theorem Con.map_inn {f : Con → Con} (c : Con) : (c.wIn (c.inn.map f)).d = .tup (.str c.wd :: (c.pts.map (mapC f)).map Pt.d) := by cases c <;> rfl
theorem Con.pts_c {c x : Con} (h : Pt.co x ∈ c.pts) : x ∈ c.inn := by
  cases c <;> simp [Con.pts, Con.inn] at h ⊢ <;> first | exact h | skip
theorem Con.pts_ng {c : Con} (h : ¬ c.gv) {t : Told} : Pt.tol t ∉ c.pts := by
  cases c <;> simp [Con.pts]
  exact (h trivial).elim
theorem Asked.hd (t : Asked) : ∃ w r, t.d = .tup (.str w :: r) ∧ (w = "below" ∨ w = "not" ∨ w = "all" ∨ w = "any") := by
  cases t with
  | lt a b => exact ⟨_, _, rfl, .inl rfl⟩
  | no a => exact ⟨_, _, rfl, .inr (.inl rfl)⟩
  | all a b => exact ⟨_, _, rfl, .inr (.inr (.inl rfl))⟩
  | any a b => exact ⟨_, _, rfl, .inr (.inr (.inr rfl))⟩
theorem Asked.inW (t : Asked) {w : Str} (h : w = "below" ∨ w = "not" ∨ w = "all" ∨ w = "any") : ([D.str "below", .str "not", .str "all", .str "any"].any fun z => eqF z (.str w)) = true := by
  rcases h with rfl | rfl | rfl | rfl <;> simp [eqF]
theorem Con.notW (c : Con) : ([D.str "below", .str "not", .str "all", .str "any"].any fun z => eqF z (.str c.wd)) = false := by
  cases c <;> simp [eqF, Con.wd, ofString_inj]
theorem Asked.ty {m : Mem} (t : Asked) : tyD m t.d = some "tuple" := by cases t <;> rfl
theorem Told.ty {m : Mem} (t : Told) : tyD m t.d = some "tuple" := by cases t <;> rfl
theorem Told.hd (t : Told) : ∃ w r, t.d = .tup (.str w :: r) ∧ ([D.str "below", .str "not", .str "all", .str "any"].any fun z => eqF z (.str w)) = false := by
  cases t with
  | num i => exact ⟨_, _, rfl, by simp [eqF, ofString_inj]⟩
  | read x => exact ⟨_, _, rfl, by simp [eqF, ofString_inj]⟩
  | bin j a b => exact ⟨_, _, rfl, by cases j <;> simp [eqF, ofString_inj, Jn.w]⟩
/-! two contracts that are the same, part by part -/
theorem al_tup {m : Mem} {n : Nat} {xs ys : List D} (h : xs.length ≤ 1000) (a : AlA m n xs ys) : Al m (n + 1) (.tup xs) (.tup ys) := .tup (by omega) a
theorem Told.al {m : Mem} : ∀ {t : Told} {n : Nat}, t.dp + 1 ≤ n → Al m n t.d t.d
  | .num i, n + 1, _ => al_tup (by show 2 ≤ 1000; omega) (.cons .str (.cons .int .nil))
  | .read x, n + 1, _ => al_tup (by show 2 ≤ 1000; omega) (.cons .str (.cons .str .nil))
  | .bin j a b, n + 1, h => al_tup (by show 3 ≤ 1000; omega) (.cons .str (.cons (Told.al (by simp only [Told.dp] at h; omega)) (.cons (Told.al (by simp only [Told.dp] at h; omega)) .nil)))
theorem Asked.al {m : Mem} : ∀ {t : Asked} {n : Nat}, t.dp + t.td + 2 ≤ n → Al m n t.d t.d
  | .lt a b, n + 1, h => al_tup (by show 3 ≤ 1000; omega) (.cons .str (.cons (Told.al (by simp only [Asked.dp, Asked.td] at h; omega)) (.cons (Told.al (by simp only [Asked.dp, Asked.td] at h; omega)) .nil)))
  | .no a, n + 1, h => al_tup (by show 2 ≤ 1000; omega) (.cons .str (.cons (Asked.al (by simp only [Asked.dp, Asked.td] at h; omega)) .nil))
  | .all a b, n + 1, h => al_tup (by show 3 ≤ 1000; omega) (.cons .str (.cons (Asked.al (by simp only [Asked.dp, Asked.td] at h; omega)) (.cons (Asked.al (by simp only [Asked.dp, Asked.td] at h; omega)) .nil)))
  | .any a b, n + 1, h => al_tup (by show 3 ≤ 1000; omega) (.cons .str (.cons (Asked.al (by simp only [Asked.dp, Asked.td] at h; omega)) (.cons (Asked.al (by simp only [Asked.dp, Asked.td] at h; omega)) .nil)))
/-- how deep its parts are -/
def Con.ht : Con → Nat
  | .no => 1
  | .give _ _ _ t => t.dp + 2
  | .both x y => max x.ht y.ht + 1
  | .turned _ _ x => x.ht + 1
  | .later _ x => x.ht + 1
  | .often _ _ x => x.ht + 1
  | .ite q x y => max (q.dp + q.td + 2) (max x.ht y.ht) + 1
  | .when q x => max (q.dp + q.td + 2) x.ht + 1
  | .till q x => max (q.dp + q.td + 2) x.ht + 1
theorem Con.al {m : Mem} : ∀ {c : Con} {n : Nat}, c.ht ≤ n → Al m n c.d c.d
  | .no, 0, h => by simp only [Con.ht] at h; omega
  | .no, n + 1, h => al_tup (by show 1 ≤ 1000; omega) (.cons .str .nil)
  | .give a b g t, 0, h => by simp only [Con.ht] at h; omega
  | .give a b g t, n + 1, h => al_tup (by show 5 ≤ 1000; omega) (.cons .str (.cons .str (.cons .str (.cons .str (.cons (Told.al (by simp only [Con.ht] at h; omega)) .nil)))))
  | .both x y, 0, h => by simp only [Con.ht] at h; omega
  | .both x y, n + 1, h => al_tup (by show 3 ≤ 1000; omega) (.cons .str (.cons (Con.al (by simp only [Con.ht] at h; omega)) (.cons (Con.al (by simp only [Con.ht] at h; omega)) .nil)))
  | .turned a b x, 0, h => by simp only [Con.ht] at h; omega
  | .turned a b x, n + 1, h => al_tup (by show 4 ≤ 1000; omega) (.cons .str (.cons .str (.cons .str (.cons (Con.al (by simp only [Con.ht] at h; omega)) .nil))))
  | .later u x, 0, h => by simp only [Con.ht] at h; omega
  | .later u x, n + 1, h => al_tup (by show 3 ≤ 1000; omega) (.cons .str (.cons .int (.cons (Con.al (by simp only [Con.ht] at h; omega)) .nil)))
  | .often u v x, 0, h => by simp only [Con.ht] at h; omega
  | .often u v x, n + 1, h => al_tup (by show 4 ≤ 1000; omega) (.cons .str (.cons .int (.cons .int (.cons (Con.al (by simp only [Con.ht] at h; omega)) .nil))))
  | .ite q x y, 0, h => by simp only [Con.ht] at h; omega
  | .ite q x y, n + 1, h => al_tup (by show 4 ≤ 1000; omega) (.cons .str (.cons (Asked.al (by simp only [Con.ht] at h; omega)) (.cons (Con.al (by simp only [Con.ht] at h; omega)) (.cons (Con.al (by simp only [Con.ht] at h; omega)) .nil))))
  | .when q x, 0, h => by simp only [Con.ht] at h; omega
  | .when q x, n + 1, h => al_tup (by show 3 ≤ 1000; omega) (.cons .str (.cons (Asked.al (by simp only [Con.ht] at h; omega)) (.cons (Con.al (by simp only [Con.ht] at h; omega)) .nil)))
  | .till q x, 0, h => by simp only [Con.ht] at h; omega
  | .till q x, n + 1, h => al_tup (by show 3 ≤ 1000; omega) (.cons .str (.cons (Asked.al (by simp only [Con.ht] at h; omega)) (.cons (Con.al (by simp only [Con.ht] at h; omega)) .nil)))
theorem Con.of_ht {wd : Int → Str} {nms : List Str} : ∀ {c : Con}, c.of wd nms → c.ht ≤ c.dp + 6
  | .no, _ => by simp only [Con.ht]; omega
  | .give a b g t, h => by have := h.2.2.2; simp only [Con.ht]; omega
  | .both x y, h => by have := Con.of_ht h.1; have := Con.of_ht h.2; simp only [Con.ht, Con.dp]; omega
  | .turned a b x, h => by have := Con.of_ht h.2; simp only [Con.ht, Con.dp]; omega
  | .later n x, h => by have := Con.of_ht h.2; simp only [Con.ht, Con.dp]; omega
  | .often n k x, h => by have := Con.of_ht h.2; simp only [Con.ht, Con.dp]; omega
  | .ite q x y, h => by have := Con.of_ht h.2.1; have := Con.of_ht h.2.2; have := h.1.2.1; have := h.1.2.2; simp only [Con.ht, Con.dp]; omega
  | .when q x, h => by have := Con.of_ht h.2; have := h.1.2.1; have := h.1.2.2; simp only [Con.ht, Con.dp]; omega
  | .till q x, h => by have := Con.of_ht h.2; have := h.1.2.1; have := h.1.2.2; simp only [Con.ht, Con.dp]; omega
theorem Con.ofGood_ht {g : Str} : ∀ c : Con, (c.ofGood g).ht ≤ c.ht
  | .no => Nat.le_refl _
  | .give a b h t => by simp only [Con.ofGood]; split <;> simp only [Con.ht] <;> omega
  | .both x y => by have := Con.ofGood_ht (g := g) x; have := Con.ofGood_ht (g := g) y; simp only [Con.ofGood, Con.ht]; omega
  | .turned a b x => by have := Con.ofGood_ht (g := g) x; simp only [Con.ofGood, Con.ht]; omega
  | .later h x => by have := Con.ofGood_ht (g := g) x; simp only [Con.ofGood, Con.ht]; omega
  | .often n k x => by have := Con.ofGood_ht (g := g) x; simp only [Con.ofGood, Con.ht]; omega
  | .ite q x y => by have := Con.ofGood_ht (g := g) x; have := Con.ofGood_ht (g := g) y; simp only [Con.ofGood, Con.ht]; omega
  | .when q x => by have := Con.ofGood_ht (g := g) x; simp only [Con.ofGood, Con.ht]; omega
  | .till q x => by have := Con.ofGood_ht (g := g) x; simp only [Con.ofGood, Con.ht]; omega
theorem Con.ofSide_ht : ∀ (c : Con) {g : Str}, (c.ofSide g).ht ≤ c.ht
  | .no, g => Nat.le_refl _
  | .give a b h t, g => by simp only [Con.ofSide]; split <;> simp only [Con.ht] <;> omega
  | .both x y, g => by have := Con.ofSide_ht (g := g) x; have := Con.ofSide_ht (g := g) y; simp only [Con.ofSide, Con.ht]; omega
  | .turned a b x, g => by have := Con.ofSide_ht (g := tside g a b) x; simp only [Con.ofSide, Con.ht]; omega
  | .later h x, g => by have := Con.ofSide_ht (g := g) x; simp only [Con.ofSide, Con.ht]; omega
  | .often n k x, g => by have := Con.ofSide_ht (g := g) x; simp only [Con.ofSide, Con.ht]; omega
  | .ite q x y, g => by have := Con.ofSide_ht (g := g) x; have := Con.ofSide_ht (g := g) y; simp only [Con.ofSide, Con.ht]; omega
  | .when q x, g => by have := Con.ofSide_ht (g := g) x; simp only [Con.ofSide, Con.ht]; omega
  | .till q x, g => by have := Con.ofSide_ht (g := g) x; simp only [Con.ofSide, Con.ht]; omega
/-- x and y, whose two ways go on alike -/
theorem i_andM {c : Bool} {X : Prop} {t u : TSm} {E : EndsM} {ρ : StM} {m : Mem} (R : StM → Mem → Prop) (h1 : c = true → (∀ ρ' m', R ρ' m' → E.nx ρ' m') → X) (h2 : c = false → (∀ ρ' m', R ρ' m' → E.nx ρ' m') → u E ρ m) (hk : ∀ ρ' m', R ρ' m' → E.nx ρ' m') :
    if c = true then X else (if false = true then t E ρ m else u E ρ m) := by
  cases c with
  | true => rw [if_pos rfl]; exact h1 rfl hk
  | false => rw [if_neg Bool.false_ne_true, if_neg Bool.false_ne_true]; exact h2 rfl hk
theorem i_iteM' {b : Bool} {t u : TSm} {E : EndsM} {ρ : StM} {m : Mem} (h1 : b = true → t E ρ m) (h2 : b = false → u E ρ m) : if b = true then t E ρ m else u E ρ m := by
  cases b with
  | true => rw [if_pos rfl]; exact h1 rfl
  | false => rw [if_neg Bool.false_ne_true]; exact h2 rfl

/-! ### what comes behind stays hidden -/
theorem nx_mk {n : StM → Mem → Prop} {rt : KM} {bk ct : StM → Mem → Prop} {ρ : StM} {m : Mem} (h : n ρ m) : EndsM.nx ⟨n, rt, bk, ct⟩ ρ m := h
theorem i_setO {i : Nat} {f : StM → Mem → KM → Prop} {E : EndsM} {ρ : StM} {m : Mem} {R : StM → Mem → Prop} (hk : ∀ ρ' m', R ρ' m' → E.nx ρ' m')
    (h : ∀ N : StM → Mem → Prop, (∀ ρ' m', R ρ' m' → N ρ' m') → f ρ m (fun d m1 => N (ρ.set i (some d)) m1)) : wSet i f E ρ m := h _ hk
theorem newL_as {m : Mem} {Q : KM} {ds : List D} (ds' : List D) (e : ds' = ds) (h : newO (.lst ds') m Q) : newO (.lst ds) m Q := e ▸ h

/-! ### told shorter -/
def Told.sm : Told → Prop
  | .num i => i.natAbs ≤ 10 ^ 12
  | .read _ => True
  | .bin _ a b => a.sm ∧ b.sm
theorem Told.of_sm {nms : List Str} : ∀ {t : Told}, t.of nms → t.sm
  | .num _, h => Nat.le_of_lt h
  | .read _, _ => trivial
  | .bin _ _ _, h => ⟨Told.of_sm h.1, Told.of_sm h.2⟩
def foldT (j : Jn) (a b : Told) : Told := match a, b with
  | .num x, .num y => if -1000000000000 < j.ap x y ∧ j.ap x y < 1000000000000 then .num (j.ap x y) else .bin j a b
  | _, _ => .bin j a b
def Told.sh : Told → Told
  | .num i => .num i
  | .read x => .read x
  | .bin j a b => foldT j a.sh b.sh
theorem foldT_sm {j : Jn} {a b : Told} (ha : a.sm) (hb : b.sm) : (foldT j a b).sm := by
  unfold foldT
  split
  · split
    · rename_i h
      show (j.ap _ _).natAbs ≤ 10 ^ 12
      omega
    · exact ⟨ha, hb⟩
  · exact ⟨ha, hb⟩
theorem Told.sh_sm : ∀ {t : Told}, t.sm → t.sh.sm
  | .num _, h => h
  | .read _, _ => trivial
  | .bin _ _ _, h => foldT_sm (Told.sh_sm h.1) (Told.sh_sm h.2)
theorem foldT_dp {j : Jn} {a b : Told} : (foldT j a b).dp ≤ max a.dp b.dp + 1 := by
  unfold foldT
  split
  · split
    · exact Nat.zero_le _
    · exact Nat.le_refl _
  · exact Nat.le_refl _
theorem Told.sh_dp : ∀ t : Told, t.sh.dp ≤ t.dp
  | .num _ => Nat.le_refl _
  | .read _ => Nat.le_refl _
  | .bin j a b => by
    have := Told.sh_dp a
    have := Told.sh_dp b
    have := foldT_dp (j := j) (a := a.sh) (b := b.sh)
    simp only [Told.sh, Told.dp]; omega
theorem foldT_val {r : Row} {j : Jn} {a b : Told} : (foldT j a b).val r = j.ap (a.val r) (b.val r) := by
  unfold foldT
  split
  · split
    · rfl
    · rfl
  · rfl
theorem Told.sh_val {r : Row} : ∀ t : Told, t.sh.val r = t.val r
  | .num _ => rfl
  | .read _ => rfl
  | .bin j a b => by
    show (foldT j a.sh b.sh).val r = j.ap (a.val r) (b.val r)
    rw [foldT_val, Told.sh_val a, Told.sh_val b]
theorem foldT_of {nms : List Str} {j : Jn} {a b : Told} (ha : a.of nms) (hb : b.of nms) : (foldT j a b).of nms := by
  unfold foldT
  split
  · split
    · rename_i h
      show (j.ap _ _).natAbs < 10 ^ 12
      omega
    · exact ⟨ha, hb⟩
  · exact ⟨ha, hb⟩
theorem Told.sh_of {nms : List Str} : ∀ {t : Told}, t.of nms → t.sh.of nms
  | .num _, h => h
  | .read _, h => h
  | .bin _ _ _, h => foldT_of (Told.sh_of h.1) (Told.sh_of h.2)
/-- the word of a number -/
def Told.wd : Told → Str
  | .num _ => "num"
  | .read _ => "read"
  | .bin j _ _ => j.w
def Told.isNum : Told → Bool
  | .num _ => true
  | _ => false
theorem Jn.inJ (j : Jn) : ([D.str "plus", .str "minus", .str "times", .str "most", .str "least"].any fun z => eqF z (.str j.w)) = true := by
  cases j <;> simp [eqF, Jn.w]
theorem small_mulW {x y : Int} (hx : x.natAbs ≤ 10 ^ 12) (hy : y.natAbs ≤ 10 ^ 12) : CMulW x y :=
  wide_mul (a := 50 * 2 ^ 12) (b := 50 * 2 ^ 12) (pow_mono (a := 50) (by omega) (Nat.lt_of_le_of_lt hx (by decide))) (pow_mono (a := 50) (by omega) (Nat.lt_of_le_of_lt hy (by decide))) (by decide) (by decide) (by decide)
def spShN (n : Nat) : SpM := fun ds m Q _ => ∃ t : Told, ds = [t.d] ∧ t.dp < n ∧ t.sm ∧ Q t.sh.d m
theorem Told.d_hd (t : Told) : ∃ r, t.d = .tup (.str t.wd :: r) := by cases t <;> exact ⟨_, rfl⟩
theorem Told.isNum_wd (t : Told) : decide (t.wd = "num") = t.isNum := by
  cases t with
  | num i => simp [Told.wd, Told.isNum]
  | read x => simp [Told.wd, Told.isNum, ofString_inj]
  | bin j a b => cases j <;> simp [Told.wd, Told.isNum, ofString_inj, Jn.w]
abbrev s_shorter_number : Stmt := topS 13
theorem sc_shorter_number : FnScope ["told", "one", "other", "found"] ["told"] (defScope s_shorter_number) := ⟨rfl, rfl, rfl, by decide +kernel, rfl, by decide +kernel, by decide +kernel⟩
theorem ok_shorter_number {k n : Nat} (V : Gv K mg) {f_joined : Addr} {fd_joined : FuncData} (D_joined : Df K mg "joined" f_joined fd_joined ["word", "one", "other"]) (G_joined : FnM P w K mg base CX0 (k) f_joined fd_joined ["word", "one", "other"] (spJoined)) {f_shorter_number : Addr} {fd_shorter_number : FuncData} (D_shorter_number : Df K mg "shorter_number" f_shorter_number fd_shorter_number ["told"]) (G_shorter_number : FnM P w K mg base CX0 (k) f_shorter_number fd_shorter_number ["told"] (spShN n)) (F : Fun K "shorter_number" "shorter_number" s_shorter_number f_shorter_number fd_shorter_number) : FnM P w K mg base CX0 (k + 1) f_shorter_number fd_shorter_number ["told"] (spShN (n + 1)) := by
  refine fn_m F sc_shorter_number (fun ds m Q E h => ?_) (fun cdv A outer s H ds m Q E E' hr h => ?_)
  · obtain ⟨t, rfl, _⟩ := h; rfl
  have nd := sc_shorter_number.nd
  obtain ⟨t, rfl, hd, hs, q⟩ := h
  refine ⟨_, (mss_cons (ms_if (mt_cmp (mo_notin hr) (mx_ix (mi_sub hr) (mv 0) mx_int) (mx_gt V.JOINS) rfl) (mss_one (ms_ret (mv 0))) mss_nil)
    (mss_cons (ms_set (i := 1) nd rfl (.inl rfl) (mx_call (Em := noX) G_shorter_number hr D_shorter_number.m D_shorter_number.k D_shorter_number.b pass0M (ma_cons (mx_ix (mi_sub hr) (mv 0) mx_int) ma_nil)))
    (mss_cons (ms_set (i := 2) nd rfl (.inl rfl) (mx_call (Em := noX) G_shorter_number hr D_shorter_number.m D_shorter_number.k D_shorter_number.b pass0M (ma_cons (mx_ix (mi_sub hr) (mv 0) mx_int) ma_nil)))
    (mss_cons (ms_if (mw_pt (mw_and (mt_cmp (mo_eqq hr) (mx_ix (mi_sub hr) (mv 1) mx_int) mx_str (nomark _)) (mw_and1 (mt_cmp (mo_eqq hr) (mx_ix (mi_sub hr) (mv 2) mx_int) mx_str (nomark _))))) (mss_cons (ms_set (i := 3) nd rfl (.inl rfl) (mx_call (Em := noX) G_joined hr D_joined.m D_joined.k D_joined.b pass0M (ma_cons (mx_ix (mi_sub hr) (mv 0) mx_int) (ma_cons (mx_ix (mi_sub hr) (mv 1) mx_int) (ma_cons (mx_ix (mi_sub hr) (mv 2) mx_int) ma_nil)))))
    (mss_one (ms_if (mt_chain mo_lt mo_lt (mx_op mo_sub mx_int (mx_gt V.GREATEST)) (mv 3) (mx_gt V.GREATEST)) (mss_one (ms_ret (mx_tup (ma_cons mx_str (ma_cons (mv 3) ma_nil))))) mss_nil))) mss_nil)
    (mss_one (ms_ret (mx_tup (ma_cons (mx_ix (mi_sub hr) (mv 0) mx_int) (ma_cons (mv 1) (ma_cons (mv 2) ma_nil)))))))))), ?_⟩
  cases t with
  | num i =>
    simp only [Told.d]; wtm_at "go"
    refine i_notin (in_tup rfl rfl) ?_
    rw [show ([D.str "plus", .str "minus", .str "times", .str "most", .str "least"].any fun z => eqF z (.str "num")) = false by simp [eqF, ofString_inj]]
    wtm_at "go"
    all_goals exact RtM.mk q
  | read x =>
    simp only [Told.d]; wtm_at "go"
    refine i_notin (in_tup rfl rfl) ?_
    rw [show ([D.str "plus", .str "minus", .str "times", .str "most", .str "least"].any fun z => eqF z (.str "read")) = false by simp [eqF, ofString_inj]]
    wtm_at "go"
    all_goals exact RtM.mk q
  | bin j a b =>
    have ha : a.dp < n := by simp only [Told.dp] at hd; omega
    have hb : b.dp < n := by simp only [Told.dp] at hd; omega
    simp only [Told.d]; wtm_at "go"
    refine i_notin (in_tup rfl rfl) ?_
    rw [j.inJ]
    wtm_at "go"
    refine ⟨a, rfl, ha, hs.1, ?_⟩
    wtm_at "go"
    refine ⟨b, rfl, hb, hs.2, ?_⟩
    have s1 := Told.sh_sm hs.1
    have s2 := Told.sh_sm hs.2
    have q' : Q (foldT j a.sh b.sh).d m := q
    clear q
    generalize a.sh = x at s1 q' ⊢
    generalize b.sh = y at s2 q' ⊢
    wtm_at "go"
    by_cases hxn : x.isNum = true
    · cases x with
      | num u =>
        simp only [Told.d] at q' ⊢
        wtm_at "go"
        by_cases hyn : y.isNum = true
        · cases y with
          | num v =>
            simp only [Told.d]
            wtm_at "go"
            refine ⟨j, rfl, fun _ => small_mulW s1 s2, ?_⟩
            simp only [foldT] at q'
            generalize j.ap u v = z at q' ⊢
            wtm_at "go"
            refine i_ite (fun c1 => ?_) (fun c1 => ?_)
            · have c1' : 0 - 1000000000000 < z := of_decide_eq_true c1
              wtm_at "go"
              refine i_ite (fun c2 => ?_) (fun c2 => ?_)
              · have c2' : z < 1000000000000 := of_decide_eq_true c2
                rw [if_pos ⟨by omega, c2'⟩] at q'
                wtm_at "go"
                all_goals exact RtM.mk q'
              · have c2' : ¬ z < 1000000000000 := of_decide_eq_false c2
                rw [if_neg (fun h => c2' h.2)] at q'
                wtm_at "go"
                all_goals exact RtM.mk q'
            · have c1' : ¬ 0 - 1000000000000 < z := of_decide_eq_false c1
              rw [if_neg (fun h => c1' (by omega))] at q'
              wtm_at "go"
              all_goals exact RtM.mk q'
          | _ => cases hyn
        · obtain ⟨r, e⟩ := y.d_hd
          have hw : decide (y.wd = "num") = false := by rw [y.isNum_wd]; simpa using hyn
          have q2 : Q (Told.bin j (.num u) y).d m := by
            cases y with
            | num v => exact (hyn rfl).elim
            | _ => exact q'
          have q3 : Q (.tup [.str j.w, .tup [.str "num", .int u], y.d]) m := q2
          rw [e] at q3 ⊢
          wtm_at "go"
          refine i_iteF hw ?_
          wtm_at "go"
          all_goals exact RtM.mk q3
      | _ => cases hxn
    · obtain ⟨r, e⟩ := x.d_hd
      have hw : decide (x.wd = "num") = false := by rw [x.isNum_wd]; simpa using hxn
      have q2 : Q (Told.bin j x y).d m := by
        cases x with
        | num v => exact (hxn rfl).elim
        | _ => exact q'
      have q3 : Q (.tup [.str j.w, x.d, y.d]) m := q2
      rw [e] at q3 ⊢
      wtm_at "go"
      refine i_iteF hw ?_
      wtm_at "go"
      all_goals exact RtM.mk q3
theorem fin_shorter_number {c : Nat} (V : Gv K mg) {f_joined : Addr} {fd_joined : FuncData} (D_joined : Df K mg "joined" f_joined fd_joined ["word", "one", "other"]) (G_joined : FnM P w K mg base CX0 (c) f_joined fd_joined ["word", "one", "other"] (spJoined)) {f_shorter_number : Addr} {fd_shorter_number : FuncData} (D_shorter_number : Df K mg "shorter_number" f_shorter_number fd_shorter_number ["told"]) (F : Fun K "shorter_number" "shorter_number" s_shorter_number f_shorter_number fd_shorter_number) : ∀ n, FnM P w K mg base CX0 (c + n) f_shorter_number fd_shorter_number ["told"] (spShN n)
  | 0 => fn_none fun ds m Q E ⟨_, _, h, _⟩ => by omega
  | n + 1 => ok_shorter_number V D_joined (G_joined.mono (Nat.le_add_right c n)) D_shorter_number (fin_shorter_number V D_joined G_joined D_shorter_number F n) F
/-! conditions that are sure -/
def optD : Option Bool → D
  | none => .non
  | some b => .bl b
def Asked.su : Asked → Option Bool
  | .lt a b => match a.sh, b.sh with
    | .num x, .num y => some (decide (x < y))
    | _, _ => none
  | .no a => a.su.map not
  | .all a b => if a.su = some false ∨ b.su = some false then some false else if a.su = some true then b.su else a.su
  | .any a b => if a.su = some true ∨ b.su = some true then some true else if a.su = none ∨ b.su = none then none else some false
def Asked.sm : Asked → Prop
  | .lt a b => a.sm ∧ b.sm
  | .no a => a.sm
  | .all a b => a.sm ∧ b.sm
  | .any a b => a.sm ∧ b.sm
theorem Asked.of_sm {nms : List Str} : ∀ {t : Asked}, t.of nms → t.sm
  | .lt _ _, h => ⟨Told.of_sm h.1, Told.of_sm h.2⟩
  | .no a, h => Asked.of_sm (t := a) h
  | .all _ _, h => ⟨Asked.of_sm h.1, Asked.of_sm h.2⟩
  | .any _ _, h => ⟨Asked.of_sm h.1, Asked.of_sm h.2⟩
/-- what is sure is so -/
theorem Asked.su_val {r : Row} : ∀ {t : Asked} {b : Bool}, t.su = some b → t.val r = b
  | .lt x y, b, h => by
    have h1 := Told.sh_val (r := r) x
    have h2 := Told.sh_val (r := r) y
    simp only [Asked.su] at h
    split at h
    · rename_i u v e1 e2
      rw [e1] at h1
      rw [e2] at h2
      cases h
      show decide (x.val r < y.val r) = _
      rw [← h1, ← h2]; rfl
    · cases h
  | .no a, b, h => by
    simp only [Asked.su] at h
    cases e : a.su with
    | none => rw [e] at h; cases h
    | some c =>
      rw [e] at h
      have := Asked.su_val (r := r) e
      have hb : (!c) = b := by simpa using h
      show (!a.val r) = b
      rw [this]; exact hb
  | .all x y, b, h => by
    simp only [Asked.su] at h
    show (if x.val r = true then y.val r else false) = b
    split at h
    · rename_i hor
      cases h
      rcases hor with e | e
      · rw [Asked.su_val (r := r) e, if_neg Bool.false_ne_true]
      · rw [Asked.su_val (r := r) e]; split <;> rfl
    · split at h
      · rename_i e
        rw [Asked.su_val (r := r) e, if_pos rfl]; exact Asked.su_val h
      · rename_i n1 n2
        exfalso
        cases b with
        | true => exact n2 h
        | false => exact n1 (.inl h)
  | .any x y, b, h => by
    simp only [Asked.su] at h
    show (if x.val r = true then true else y.val r) = b
    split at h
    · rename_i hor
      cases h
      rcases hor with e | e
      · rw [Asked.su_val (r := r) e, if_pos rfl]
      · rw [Asked.su_val (r := r) e]; split <;> rfl
    · split at h
      · cases h
      · rename_i n1 n2
        cases h
        have hx : x.su = some false := by
          cases e : x.su with
          | none => exact (n2 (.inl e)).elim
          | some c => cases c with
            | true => exact (n1 (.inl e)).elim
            | false => rfl
        have hy : y.su = some false := by
          cases e : y.su with
          | none => exact (n2 (.inr e)).elim
          | some c => cases c with
            | true => exact (n1 (.inr e)).elim
            | false => rfl
        rw [Asked.su_val (r := r) hx, if_neg Bool.false_ne_true]; exact Asked.su_val hy
def spSure (n : Nat) : SpM := fun ds m Q _ => ∃ t : Asked, ds = [t.d] ∧ t.dp < n ∧ t.td < 20 ∧ t.sm ∧ Q (optD t.su) m
abbrev s_sure : Stmt := topS 14
theorem sc_sure : FnScope ["asked", "one", "other", "first", "second"] ["asked"] (defScope s_sure) := ⟨rfl, rfl, rfl, by decide +kernel, rfl, by decide +kernel, by decide +kernel⟩
theorem ok_sure {k n : Nat} (V : Gv K mg) {f_shorter_number : Addr} {fd_shorter_number : FuncData} (D_shorter_number : Df K mg "shorter_number" f_shorter_number fd_shorter_number ["told"]) (G_shorter_number : FnM P w K mg base CX0 (k) f_shorter_number fd_shorter_number ["told"] (spShN 20)) {f_sure : Addr} {fd_sure : FuncData} (D_sure : Df K mg "sure" f_sure fd_sure ["asked"]) (G_sure : FnM P w K mg base CX0 (k) f_sure fd_sure ["asked"] (spSure n)) (F : Fun K "sure" "sure" s_sure f_sure fd_sure) : FnM P w K mg base CX0 (k + 1) f_sure fd_sure ["asked"] (spSure (n + 1)) := by
  refine fn_m F sc_sure (fun ds m Q E h => ?_) (fun cdv A outer s H ds m Q E E' hr h => ?_)
  · obtain ⟨t, rfl, _⟩ := h; rfl
  have nd := sc_sure.nd
  obtain ⟨t, rfl, hd, htd, hs, q⟩ := h
  refine ⟨_, (mss_cons (ms_if (mt_cmp (mo_eqq hr) (mx_ix (mi_sub hr) (mv 0) mx_int) mx_str (nomark _)) (mss_cons (ms_set (i := 1) nd rfl (.inl rfl) (mx_call (Em := noX) G_shorter_number hr D_shorter_number.m D_shorter_number.k D_shorter_number.b pass0M (ma_cons (mx_ix (mi_sub hr) (mv 0) mx_int) ma_nil)))
    (mss_cons (ms_set (i := 2) nd rfl (.inl rfl) (mx_call (Em := noX) G_shorter_number hr D_shorter_number.m D_shorter_number.k D_shorter_number.b pass0M (ma_cons (mx_ix (mi_sub hr) (mv 0) mx_int) ma_nil)))
    (mss_one (ms_ret (mx_if (mw_pt (mw_and (mt_cmp (mo_eqq hr) (mx_ix (mi_sub hr) (mv 1) mx_int) mx_str (nomark _)) (mw_and1 (mt_cmp (mo_eqq hr) (mx_ix (mi_sub hr) (mv 2) mx_int) mx_str (nomark _))))) (mx_cmp mo_lt (mx_ix (mi_sub hr) (mv 1) mx_int) (mx_ix (mi_sub hr) (mv 2) mx_int) (nomark _)) mx_non))))) mss_nil)
    (mss_cons (ms_set (i := 3) nd rfl (.inl rfl) (mx_call (Em := noX) G_sure hr D_sure.m D_sure.k D_sure.b pass0M (ma_cons (mx_ix (mi_sub hr) (mv 0) mx_int) ma_nil)))
    (mss_cons (ms_if (mt_cmp (mo_eqq hr) (mx_ix (mi_sub hr) (mv 0) mx_int) mx_str (nomark _)) (mss_one (ms_ret (mx_if (mt_cmp mo_isN (mv 3) mx_non (nomark _)) mx_non (mx_not (mv 3))))) mss_nil)
    (mss_cons (ms_set (i := 4) nd rfl (.inl rfl) (mx_call (Em := noX) G_sure hr D_sure.m D_sure.k D_sure.b pass0M (ma_cons (mx_ix (mi_sub hr) (mv 0) mx_int) ma_nil)))
    (mss_cons (ms_if (mt_cmp (mo_eqq hr) (mx_ix (mi_sub hr) (mv 0) mx_int) mx_str (nomark _)) (mss_one (ms_ret (mx_if (mw_pt (mw_or (mt_cmp mo_isB (mv 3) mx_bl (nomark _)) (mw_or1 (mt_cmp mo_isB (mv 4) mx_bl (nomark _))))) mx_bl (mx_andT (mv 3) (mx_one (mv 4)))))) mss_nil)
    (mss_one (ms_ret (mx_if (mw_pt (mw_or (mt_cmp mo_isB (mv 3) mx_bl (nomark _)) (mw_or1 (mt_cmp mo_isB (mv 4) mx_bl (nomark _))))) mx_bl (mx_if (mw_pt (mw_or (mt_cmp mo_isN (mv 3) mx_non (nomark _)) (mw_or1 (mt_cmp mo_isN (mv 4) mx_non (nomark _))))) mx_non mx_bl))))))))), ?_⟩
  cases t with
  | lt a b =>
    simp only [Asked.td] at htd
    simp only [Asked.d]; wtm_at "go"
    refine ⟨a, rfl, by omega, hs.1, ?_⟩
    wtm_at "go"
    refine ⟨b, rfl, by omega, hs.2, ?_⟩
    simp only [Asked.su] at q
    generalize a.sh = x at q ⊢
    generalize b.sh = y at q ⊢
    by_cases hxn : x.isNum = true
    · cases x with
      | num u =>
        by_cases hyn : y.isNum = true
        · cases y with
          | num v =>
            simp only [Told.d] at q ⊢
            wtm_at "go"
            all_goals exact RtM.mk q
          | _ => cases hyn
        · obtain ⟨r, e⟩ := y.d_hd
          have hw : decide (y.wd = "num") = false := by rw [y.isNum_wd]; simpa using hyn
          have q2 : Q .non m := by
            cases y with
            | num v => exact (hyn rfl).elim
            | _ => exact q
          simp only [Told.d]
          rw [e]
          wtm_at "go"
          refine i_iteF hw ?_
          wtm_at "go"
          all_goals exact RtM.mk q2
      | _ => cases hxn
    · obtain ⟨r, e⟩ := x.d_hd
      have hw : decide (x.wd = "num") = false := by rw [x.isNum_wd]; simpa using hxn
      have q2 : Q .non m := by
        cases x with
        | num v => exact (hxn rfl).elim
        | _ => exact q
      rw [e]
      wtm_at "go"
      refine i_iteF hw ?_
      wtm_at "go"
      all_goals exact RtM.mk q2
  | no a =>
    simp only [Asked.td, Asked.dp] at htd hd
    simp only [Asked.d]; wtm_at "go"
    refine ⟨a, rfl, by omega, htd, hs, ?_⟩
    simp only [Asked.su] at q
    cases e : a.su with
    | none =>
      rw [e] at q
      simp only [optD] at q ⊢
      wtm_at "go"
      all_goals exact RtM.mk q
    | some c =>
      rw [e] at q
      simp only [optD, Option.map_some] at q ⊢
      wtm_at "go"
      all_goals exact RtM.mk q
  | all a b =>
    simp only [Asked.td, Asked.dp] at htd hd
    simp only [Asked.d]; wtm_at "go"
    refine ⟨a, rfl, by omega, by omega, hs.1, ?_⟩
    wtm_at "go"
    refine ⟨b, rfl, by omega, by omega, hs.2, ?_⟩
    simp only [Asked.su] at q
    generalize a.su = x at q ⊢
    generalize b.su = y at q ⊢
    wtm_at "go"
    cases x with
    | none =>
      simp only [optD]
      refine i_isB (k := false) rfl ?_
      wtm_at "go"
      cases y with
      | none =>
        refine i_isB (k := false) rfl ?_
        wtm_at "go"
        exact ⟨false, rfl, by simp only [Bool.false_eq_true, if_false]; exact RtM.mk (by have h0 := q; simp at h0; exact h0)⟩
      | some c =>
        refine i_isB (k := decide (c = false)) rfl ?_
        cases c with
        | true =>
          wtm_at "go"
          exact ⟨false, rfl, by simp only [Bool.false_eq_true, if_false]; exact RtM.mk (by have h0 := q; simp at h0; exact h0)⟩
        | false =>
          wtm_at "go"
          all_goals exact RtM.mk (by have h0 := q; simp at h0; exact h0)
    | some b1 =>
      simp only [optD]
      refine i_isB (k := decide (b1 = false)) rfl ?_
      cases b1 with
      | false =>
        wtm_at "go"
        all_goals exact RtM.mk (by have h0 := q; simp at h0; exact h0)
      | true =>
        wtm_at "go"
        cases y with
        | none =>
          refine i_isB (k := false) rfl ?_
          wtm_at "go"
          refine ⟨true, rfl, ?_⟩
          wtm_at "go"
          all_goals exact RtM.mk (by have h0 := q; simp at h0; exact h0)
        | some c =>
          refine i_isB (k := decide (c = false)) rfl ?_
          cases c with
          | true =>
            wtm_at "go"
            refine ⟨true, rfl, ?_⟩
            wtm_at "go"
            all_goals exact RtM.mk (by have h0 := q; simp at h0; exact h0)
          | false =>
            wtm_at "go"
            all_goals exact RtM.mk (by have h0 := q; simp at h0; exact h0)
  | any a b =>
    simp only [Asked.td, Asked.dp] at htd hd
    simp only [Asked.d]; wtm_at "go"
    refine ⟨a, rfl, by omega, by omega, hs.1, ?_⟩
    wtm_at "go"
    refine ⟨b, rfl, by omega, by omega, hs.2, ?_⟩
    simp only [Asked.su] at q
    generalize a.su = x at q ⊢
    generalize b.su = y at q ⊢
    wtm_at "go"
    rcases x with _ | b1
    · simp only [optD]
      refine i_isB (k := false) rfl ?_
      wtm_at "go"
      rcases y with _ | c
      · refine i_isB (k := false) rfl ?_
        wtm_at "go"
        all_goals exact RtM.mk (by have h0 := q; simp at h0; exact h0)
      · refine i_isB (k := decide (c = true)) rfl ?_
        cases c <;> (wtm_at "go"; all_goals exact RtM.mk (by have h0 := q; simp at h0; exact h0))
    · simp only [optD]
      refine i_isB (k := decide (b1 = true)) rfl ?_
      cases b1 with
      | true =>
        wtm_at "go"
        all_goals exact RtM.mk (by have h0 := q; simp at h0; exact h0)
      | false =>
        wtm_at "go"
        rcases y with _ | c
        · refine i_isB (k := false) rfl ?_
          wtm_at "go"
          all_goals exact RtM.mk (by have h0 := q; simp at h0; exact h0)
        · refine i_isB (k := decide (c = true)) rfl ?_
          cases c <;> (wtm_at "go"; all_goals exact RtM.mk (by have h0 := q; simp at h0; exact h0))
theorem fin_sure {c : Nat} (V : Gv K mg) {f_shorter_number : Addr} {fd_shorter_number : FuncData} (D_shorter_number : Df K mg "shorter_number" f_shorter_number fd_shorter_number ["told"]) (G_shorter_number : FnM P w K mg base CX0 (c) f_shorter_number fd_shorter_number ["told"] (spShN 20)) {f_sure : Addr} {fd_sure : FuncData} (D_sure : Df K mg "sure" f_sure fd_sure ["asked"]) (F : Fun K "sure" "sure" s_sure f_sure fd_sure) : ∀ n, FnM P w K mg base CX0 (c + n) f_sure fd_sure ["asked"] (spSure n)
  | 0 => fn_none fun ds m Q E ⟨_, _, h, _⟩ => by omega
  | n + 1 => ok_sure V D_shorter_number (G_shorter_number.mono (Nat.le_add_right c n)) D_sure (fin_sure V D_shorter_number G_shorter_number D_sure F n) F

/-! contracts told shorter -/
def Con.eqb (x y : Con) : Bool := PyData.eqv x.pd y.pd
theorem eqv_t {xs ys : List PyData} : PyData.eqv (.tuple xs) (.tuple ys) = PyData.eqvAll xs ys := by simp only [PyData.eqv]
theorem eqvA_c {x y : PyData} {xs ys : List PyData} : PyData.eqvAll (x :: xs) (y :: ys) = (PyData.eqv x y && PyData.eqvAll xs ys) := by simp only [PyData.eqvAll]
theorem eqvA_n : PyData.eqvAll [] [] = true := by simp only [PyData.eqvAll]
theorem eqvA_nc {y : PyData} {ys : List PyData} : PyData.eqvAll [] (y :: ys) = false := by simp only [PyData.eqvAll]
theorem eqvA_cn {y : PyData} {ys : List PyData} : PyData.eqvAll (y :: ys) [] = false := by simp only [PyData.eqvAll]
theorem eqv_s {x y : Str} : PyData.eqv (.str x) (.str y) = (x == y) := by simp only [PyData.eqv]
theorem eqv_i {x y : Int} : PyData.eqv (.int x) (.int y) = (x == y) := by simp only [PyData.eqv]
theorem Told.eqv_iff {a b : Told} : PyData.eqv a.pd b.pd = true ↔ a = b := by
  induction a generalizing b with
  | num i =>
    cases b with
    | num j => simp [Told.pd, eqv_t, eqvA_c, eqvA_n, eqvA_nc, eqvA_cn, eqv_s, eqv_i]
    | read y => simp [Told.pd, eqv_t, eqvA_c, eqvA_n, eqvA_nc, eqvA_cn, eqv_s, eqv_i, ofString_inj]
    | bin j x y => simp [Told.pd, eqv_t, eqvA_c, eqvA_n, eqvA_nc, eqvA_cn, eqv_s, eqv_i]
  | read x =>
    cases b with
    | num j => simp [Told.pd, eqv_t, eqvA_c, eqvA_n, eqvA_nc, eqvA_cn, eqv_s, eqv_i, ofString_inj]
    | read y => simp [Told.pd, eqv_t, eqvA_c, eqvA_n, eqvA_nc, eqvA_cn, eqv_s, eqv_i]
    | bin j x y => simp [Told.pd, eqv_t, eqvA_c, eqvA_n, eqvA_nc, eqvA_cn, eqv_s, eqv_i]
  | bin j x y h1 h2 =>
    cases b with
    | num i => simp [Told.pd, eqv_t, eqvA_c, eqvA_n, eqvA_nc, eqvA_cn, eqv_s, eqv_i]
    | read z => simp [Told.pd, eqv_t, eqvA_c, eqvA_n, eqvA_nc, eqvA_cn, eqv_s, eqv_i]
    | bin j' x' y' =>
      have hj : j.w = j'.w ↔ j = j' := by cases j <;> cases j' <;> simp [Jn.w, ofString_inj]
      simp only [Told.pd, eqv_t, eqvA_c, eqvA_n, eqvA_nc, eqvA_cn, eqv_s, eqv_i, Bool.and_eq_true, beq_iff_eq, Bool.and_true, h1, h2, hj, Told.bin.injEq]
theorem Asked.eqv_iff {a b : Asked} : PyData.eqv a.pd b.pd = true ↔ a = b := by
  induction a generalizing b with
  | lt x y =>
    cases b with
    | lt x' y' => simp only [Asked.pd, eqv_t, eqvA_c, eqvA_n, eqvA_nc, eqvA_cn, eqv_s, eqv_i, Bool.and_eq_true, Bool.and_true, Told.eqv_iff, Asked.lt.injEq, beq_self_eq_true, true_and]
    | _ => simp [Asked.pd, eqv_t, eqvA_c, eqvA_n, eqvA_nc, eqvA_cn, eqv_s, eqv_i, ofString_inj]
  | no x h1 =>
    cases b with
    | no x' => simp only [Asked.pd, eqv_t, eqvA_c, eqvA_n, eqvA_nc, eqvA_cn, eqv_s, eqv_i, Bool.and_eq_true, Bool.and_true, h1, Asked.no.injEq, beq_self_eq_true, true_and]
    | _ => simp [Asked.pd, eqv_t, eqvA_c, eqvA_n, eqvA_nc, eqvA_cn, eqv_s, eqv_i, ofString_inj]
  | all x y h1 h2 =>
    cases b with
    | all x' y' => simp only [Asked.pd, eqv_t, eqvA_c, eqvA_n, eqvA_nc, eqvA_cn, eqv_s, eqv_i, Bool.and_eq_true, Bool.and_true, h1, h2, Asked.all.injEq, beq_self_eq_true, true_and]
    | _ => simp [Asked.pd, eqv_t, eqvA_c, eqvA_n, eqvA_nc, eqvA_cn, eqv_s, eqv_i, ofString_inj]
  | any x y h1 h2 =>
    cases b with
    | any x' y' => simp only [Asked.pd, eqv_t, eqvA_c, eqvA_n, eqvA_nc, eqvA_cn, eqv_s, eqv_i, Bool.and_eq_true, Bool.and_true, h1, h2, Asked.any.injEq, beq_self_eq_true, true_and]
    | _ => simp [Asked.pd, eqv_t, eqvA_c, eqvA_n, eqvA_nc, eqvA_cn, eqv_s, eqv_i, ofString_inj]
theorem Con.eqv_iff {a b : Con} : PyData.eqv a.pd b.pd = true ↔ a = b := by
  induction a generalizing b with
  | no => cases b <;> simp [Con.pd, eqv_t, eqvA_c, eqvA_n, eqvA_nc, eqvA_cn, eqv_s, eqv_i, ofString_inj]
  | give p q g t  =>
    cases b with
    | give p' q' g' t' => simp only [Con.pd, eqv_t, eqvA_c, eqvA_n, eqvA_nc, eqvA_cn, eqv_s, eqv_i, Bool.and_eq_true, Bool.and_true, Told.eqv_iff, Asked.eqv_iff, Con.give.injEq, beq_iff_eq, beq_self_eq_true, true_and]
    | _ => simp [Con.pd, eqv_t, eqvA_c, eqvA_n, eqvA_nc, eqvA_cn, eqv_s, eqv_i, ofString_inj]
  | both x y h1 h2 =>
    cases b with
    | both x' y' => simp only [Con.pd, eqv_t, eqvA_c, eqvA_n, eqvA_nc, eqvA_cn, eqv_s, eqv_i, Bool.and_eq_true, Bool.and_true, Told.eqv_iff, Asked.eqv_iff, h1, h2, Con.both.injEq, beq_iff_eq, beq_self_eq_true, true_and]
    | _ => simp [Con.pd, eqv_t, eqvA_c, eqvA_n, eqvA_nc, eqvA_cn, eqv_s, eqv_i, ofString_inj]
  | turned p q x h1 =>
    cases b with
    | turned p' q' x' => simp only [Con.pd, eqv_t, eqvA_c, eqvA_n, eqvA_nc, eqvA_cn, eqv_s, eqv_i, Bool.and_eq_true, Bool.and_true, Told.eqv_iff, Asked.eqv_iff, h1, Con.turned.injEq, beq_iff_eq, beq_self_eq_true, true_and]
    | _ => simp [Con.pd, eqv_t, eqvA_c, eqvA_n, eqvA_nc, eqvA_cn, eqv_s, eqv_i, ofString_inj]
  | later u x h1 =>
    cases b with
    | later u' x' => simp only [Con.pd, eqv_t, eqvA_c, eqvA_n, eqvA_nc, eqvA_cn, eqv_s, eqv_i, Bool.and_eq_true, Bool.and_true, Told.eqv_iff, Asked.eqv_iff, h1, Con.later.injEq, beq_iff_eq, beq_self_eq_true, true_and]
    | _ => simp [Con.pd, eqv_t, eqvA_c, eqvA_n, eqvA_nc, eqvA_cn, eqv_s, eqv_i, ofString_inj]
  | often u v x h1 =>
    cases b with
    | often u' v' x' => simp only [Con.pd, eqv_t, eqvA_c, eqvA_n, eqvA_nc, eqvA_cn, eqv_s, eqv_i, Bool.and_eq_true, Bool.and_true, Told.eqv_iff, Asked.eqv_iff, h1, Con.often.injEq, beq_iff_eq, beq_self_eq_true, true_and]
    | _ => simp [Con.pd, eqv_t, eqvA_c, eqvA_n, eqvA_nc, eqvA_cn, eqv_s, eqv_i, ofString_inj]
  | ite q x y h1 h2 =>
    cases b with
    | ite q' x' y' => simp only [Con.pd, eqv_t, eqvA_c, eqvA_n, eqvA_nc, eqvA_cn, eqv_s, eqv_i, Bool.and_eq_true, Bool.and_true, Told.eqv_iff, Asked.eqv_iff, h1, h2, Con.ite.injEq, beq_iff_eq, beq_self_eq_true, true_and]
    | _ => simp [Con.pd, eqv_t, eqvA_c, eqvA_n, eqvA_nc, eqvA_cn, eqv_s, eqv_i, ofString_inj]
  | when q x h1 =>
    cases b with
    | when q' x' => simp only [Con.pd, eqv_t, eqvA_c, eqvA_n, eqvA_nc, eqvA_cn, eqv_s, eqv_i, Bool.and_eq_true, Bool.and_true, Told.eqv_iff, Asked.eqv_iff, h1, Con.when.injEq, beq_iff_eq, beq_self_eq_true, true_and]
    | _ => simp [Con.pd, eqv_t, eqvA_c, eqvA_n, eqvA_nc, eqvA_cn, eqv_s, eqv_i, ofString_inj]
  | till q x h1 =>
    cases b with
    | till q' x' => simp only [Con.pd, eqv_t, eqvA_c, eqvA_n, eqvA_nc, eqvA_cn, eqv_s, eqv_i, Bool.and_eq_true, Bool.and_true, Told.eqv_iff, Asked.eqv_iff, h1, Con.till.injEq, beq_iff_eq, beq_self_eq_true, true_and]
    | _ => simp [Con.pd, eqv_t, eqvA_c, eqvA_n, eqvA_nc, eqvA_cn, eqv_s, eqv_i, ofString_inj]
theorem Con.eqb_iff {a b : Con} : a.eqb b = true ↔ a = b := Con.eqv_iff
theorem Told.pd_depth : ∀ t : Told, t.pd.depth ≤ t.dp + 1
  | .num _ => by simp [Told.pd, PyData.depth, PyData.depthAll]
  | .read _ => by simp [Told.pd, PyData.depth, PyData.depthAll]
  | .bin j a b => by
    have := Told.pd_depth a
    have := Told.pd_depth b
    simp only [Told.pd, PyData.depth, PyData.depthAll, Told.dp]; omega
theorem Asked.pd_depth : ∀ t : Asked, t.pd.depth ≤ t.dp + t.td + 2
  | .lt a b => by
    have := Told.pd_depth a
    have := Told.pd_depth b
    simp only [Asked.pd, PyData.depth, PyData.depthAll, Asked.dp, Asked.td]; omega
  | .no a => by
    have := Asked.pd_depth a
    simp only [Asked.pd, PyData.depth, PyData.depthAll, Asked.dp, Asked.td]; omega
  | .all a b => by
    have := Asked.pd_depth a
    have := Asked.pd_depth b
    simp only [Asked.pd, PyData.depth, PyData.depthAll, Asked.dp, Asked.td]; omega
  | .any a b => by
    have := Asked.pd_depth a
    have := Asked.pd_depth b
    simp only [Asked.pd, PyData.depth, PyData.depthAll, Asked.dp, Asked.td]; omega
theorem Con.pd_depth : ∀ c : Con, c.pd.depth ≤ c.rk
  | .no => by simp [Con.pd, PyData.depth, PyData.depthAll, Con.rk]
  | .give a b g t => by
    have := Told.pd_depth t
    simp only [Con.pd, PyData.depth, PyData.depthAll, Con.rk]; omega
  | .both x y => by
    have := Con.pd_depth x
    have := Con.pd_depth y
    simp only [Con.pd, PyData.depth, PyData.depthAll, Con.rk]; omega
  | .turned a b x => by
    have := Con.pd_depth x
    simp only [Con.pd, PyData.depth, PyData.depthAll, Con.rk]; omega
  | .later h x => by
    have h1 := Con.pd_depth x
    cases x with
    | often n k y =>
      have h2 := Con.pd_depth y
      simp only [Con.pd, PyData.depth, PyData.depthAll, Con.rk] at h1 h2 ⊢; omega
    | _ => simp only [Con.pd, PyData.depth, PyData.depthAll, Con.rk] at h1 ⊢; omega
  | .often n k x => by
    have := Con.pd_depth x
    simp only [Con.pd, PyData.depth, PyData.depthAll, Con.rk]; omega
  | .ite q x y => by
    have := Con.pd_depth x
    have := Con.pd_depth y
    have := Asked.pd_depth q
    simp only [Con.pd, PyData.depth, PyData.depthAll, Con.rk]; omega
  | .when q x => by
    have := Con.pd_depth x
    have := Asked.pd_depth q
    simp only [Con.pd, PyData.depth, PyData.depthAll, Con.rk]; omega
  | .till q x => by
    have := Con.pd_depth x
    have := Asked.pd_depth q
    simp only [Con.pd, PyData.depth, PyData.depthAll, Con.rk]; omega
theorem Con.eqM_con {m : Mem} {x y : Con} (hx : x.ly) (hy : y.ly) (h : min x.pd.depth y.pd.depth ≤ 64) : EqM m x.d y.d (x.eqb y) := .inr ⟨_, _, Con.vw x, Con.vw y, hx, hy, h, rfl⟩

def Told.isZ : Told → Bool
  | .num i => decide (i = 0)
  | _ => false
def laterC (h : Int) (x : Con) : Con := match x with
  | .later k y => if h + k ≤ 99 then .later (h + k) y else if h = 0 then .later k y else .later h (.later k y)
  | x => if h = 0 then x else .later h x
def turnC (a b : Str) (x : Con) : Con := match x with
  | .turned p q y => if (p = a ∧ q = b) ∨ (q = a ∧ p = b) then y else .turned a b (.turned p q y)
  | .give p q g t => .give (tside p a b) (tside q a b) g t
  | x => .turned a b x
def iteC (q : Asked) (x y : Con) : Con := if q.su = some true then x else if x.eqb y = true then x else if q.su = some false then y else .ite q x y
def whenC (q : Asked) (x : Con) : Con := if q.su = none then .when q x else if q.su = some true then x else .no
def tillC (q : Asked) (x : Con) : Con := if q.su = none then .till q x else if q.su = some true then .no else x
/-- one word, its inner ones shortened -/
def Con.top : Con → Con
  | .no => .no
  | .give a b g t => if t.sh.isZ = true then .no else .give a b g t.sh
  | .both x y => bothOf x y
  | .turned a b x => if x.isNo = true then .no else turnC a b x
  | .later h x => if x.isNo = true then .no else laterC h x
  | .often n k x => if x.isNo = true then .no else if n = 1 then x else .often n k x
  | .ite q x y => iteC q x y
  | .when q x => if x.isNo = true then .no else whenC q x
  | .till q x => if x.isNo = true then .no else tillC q x
def Con.sh : Con → Con
  | .no => .no
  | .give a b g t => (Con.give a b g t).top
  | .both x y => (Con.both x.sh y.sh).top
  | .turned a b x => (Con.turned a b x.sh).top
  | .later h x => (Con.later h x.sh).top
  | .often n k x => (Con.often n k x.sh).top
  | .ite q x y => (Con.ite q x.sh y.sh).top
  | .when q x => (Con.when q x.sh).top
  | .till q x => (Con.till q x.sh).top
theorem Con.sh_in (c : Con) : (c.wIn (c.inn.map Con.sh)).top = c.sh := by cases c <;> rfl
/-- good, and not too deep -/
structure ShI (c : Con) (W nms : List Str) (r : Nat) : Prop where
  w : WOk W ∧ WOk nms
  g : c.gd W nms
  k : c.rk ≤ r
theorem laterC_gd {W nms : List Str} {h : Int} {x : Con} (h0 : 0 ≤ h) (hx : x.gd W nms) : (laterC h x).gd W nms := by
  unfold laterC
  split
  · have := hx.1
    split
    · exact ⟨by omega, hx.2⟩
    · split
      · exact hx
      · exact ⟨h0, hx⟩
  · split
    · exact hx
    · exact ⟨h0, hx⟩
theorem laterC_rk {h : Int} {x : Con} : (laterC h x).rk ≤ (Con.later h x).rk := by
  unfold laterC
  split
  · rename_i k y
    have h1 := Con.later_rk (h := h) (x := .later k y)
    split
    · have := Con.rk_later' (h := h + k) (h' := k) (x := y)
      omega
    · split
      · exact h1
      · exact Nat.le_refl _
  · split
    · exact Con.later_rk
    · exact Nat.le_refl _
theorem turnC_gd {W nms : List Str} {a b : Str} {x : Con} (hs : a ∈ W ∧ b ∈ W ∧ a ≠ b) (hx : x.gd W nms) : (turnC a b x).gd W nms := by
  unfold turnC
  split
  · split
    · exact hx.2
    · exact ⟨hs, hx⟩
  · exact ⟨⟨tside_mem hx.1.1 hs.1 hs.2.1, tside_mem hx.1.2.1 hs.1 hs.2.1, hx.1.2.2.1, tside_ne hx.1.2.2.2⟩, hx.2⟩
  · exact ⟨hs, hx⟩
theorem turnC_rk {a b : Str} {x : Con} : (turnC a b x).rk ≤ (Con.turned a b x).rk := by
  unfold turnC
  split
  · split
    · simp only [Con.rk]; omega
    · exact Nat.le_refl _
  · simp only [Con.rk]; omega
  · exact Nat.le_refl _
theorem iteC_gd {W nms : List Str} {q : Asked} {x y : Con} (h : (Con.ite q x y).gd W nms) : (iteC q x y).gd W nms := by
  unfold iteC
  split
  · exact h.2.1
  · split
    · exact h.2.1
    · split
      · exact h.2.2
      · exact h
theorem iteC_rk {q : Asked} {x y : Con} : (iteC q x y).rk ≤ (Con.ite q x y).rk := by
  unfold iteC
  split
  · simp only [Con.rk]; omega
  · split
    · simp only [Con.rk]; omega
    · split
      · simp only [Con.rk]; omega
      · exact Nat.le_refl _
theorem Con.top_gd {W nms : List Str} : ∀ {c : Con}, c.gd W nms → c.top.gd W nms
  | .no, h => h
  | .give a b g t, h => by
    simp only [Con.top]; split
    · trivial
    · exact ⟨h.1, Told.sh_of h.2.1, Nat.le_trans (Told.sh_dp t) h.2.2⟩
  | .both x y, h => bothOf_gd h.1 h.2
  | .turned a b x, h => by
    simp only [Con.top]; split
    · trivial
    · exact turnC_gd h.1 h.2
  | .later u x, h => by
    simp only [Con.top]; split
    · trivial
    · exact laterC_gd h.1 h.2
  | .often n k x, h => by
    simp only [Con.top]; split
    · trivial
    · split
      · exact h.2
      · exact h
  | .ite q x y, h => iteC_gd h
  | .when q x, h => by
    simp only [Con.top]; split
    · trivial
    · unfold whenC; split
      · exact h
      · split
        · exact h.2
        · trivial
  | .till q x, h => by
    simp only [Con.top]; split
    · trivial
    · unfold tillC; split
      · exact h
      · split
        · trivial
        · exact h.2
theorem Con.top_rk : ∀ c : Con, c.top.rk ≤ c.rk
  | .no => Nat.le_refl _
  | .give a b g t => by
    have := Told.sh_dp t
    simp only [Con.top]; split <;> simp only [Con.rk] <;> omega
  | .both x y => bothOf_rk
  | .turned a b x => by
    simp only [Con.top]; split
    · simp only [Con.rk]; omega
    · exact turnC_rk
  | .later u x => by
    simp only [Con.top]; split
    · have := Con.rk_pos (.later u x); simp only [Con.rk] at this ⊢; omega
    · exact laterC_rk
  | .often n k x => by
    simp only [Con.top]; split
    · simp only [Con.rk]; omega
    · split
      · simp only [Con.rk]; omega
      · exact Nat.le_refl _
  | .ite q x y => iteC_rk
  | .when q x => by
    simp only [Con.top]; split
    · simp only [Con.rk]; omega
    · unfold whenC; split
      · exact Nat.le_refl _
      · split <;> simp only [Con.rk] <;> omega
  | .till q x => by
    simp only [Con.top]; split
    · simp only [Con.rk]; omega
    · unfold tillC; split
      · exact Nat.le_refl _
      · split <;> simp only [Con.rk] <;> omega
theorem rk_later_le {h : Int} {x y : Con} (hxy : x.rk ≤ y.rk) (ho : ∀ n k z, y = .often n k z → x.rk ≤ z.rk ∨ (∃ z', x = .often n k z' ∧ z'.rk ≤ z.rk) ∨ x = .no) : (Con.later h x).rk ≤ (Con.later h y).rk := by
  cases y with
  | often n k z =>
    rcases ho n k z rfl with h1 | ⟨z', rfl, h1⟩ | rfl
    · have := Con.rk_later (h := h) (x := x)
      simp only [Con.rk]; omega
    · simp only [Con.rk]; omega
    · simp only [Con.rk]; omega
  | _ => have := Con.rk_later (h := h) (x := x); simp only [Con.rk] at hxy ⊢; omega
theorem Con.sh_gd {W nms : List Str} : ∀ {c : Con}, c.gd W nms → c.sh.gd W nms
  | .no, h => h
  | .give a b g t, h => Con.top_gd (c := .give a b g t) h
  | .both x y, h => Con.top_gd (c := .both x.sh y.sh) ⟨Con.sh_gd h.1, Con.sh_gd h.2⟩
  | .turned a b x, h => Con.top_gd (c := .turned a b x.sh) ⟨h.1, Con.sh_gd h.2⟩
  | .later u x, h => Con.top_gd (c := .later u x.sh) ⟨h.1, Con.sh_gd h.2⟩
  | .often n k x, h => Con.top_gd (c := .often n k x.sh) ⟨h.1, Con.sh_gd h.2⟩
  | .ite q x y, h => Con.top_gd (c := .ite q x.sh y.sh) ⟨h.1, Con.sh_gd h.2.1, Con.sh_gd h.2.2⟩
  | .when q x, h => Con.top_gd (c := .when q x.sh) ⟨h.1, Con.sh_gd h.2⟩
  | .till q x, h => Con.top_gd (c := .till q x.sh) ⟨h.1, Con.sh_gd h.2⟩
theorem Con.sh_rk : ∀ c : Con, c.sh.rk ≤ c.rk
  | .no => Nat.le_refl _
  | .give a b g t => Con.top_rk (.give a b g t)
  | .both x y => by have := Con.sh_rk x; have := Con.sh_rk y; have := Con.top_rk (.both x.sh y.sh); simp only [Con.sh, Con.rk] at this ⊢; omega
  | .turned a b x => by have := Con.sh_rk x; have := Con.top_rk (.turned a b x.sh); simp only [Con.sh, Con.rk] at this ⊢; omega
  | .often n k x => by have := Con.sh_rk x; have := Con.top_rk (.often n k x.sh); simp only [Con.sh, Con.rk] at this ⊢; omega
  | .ite q x y => by have := Con.sh_rk x; have := Con.sh_rk y; have := Con.top_rk (.ite q x.sh y.sh); simp only [Con.sh, Con.rk] at this ⊢; omega
  | .when q x => by have := Con.sh_rk x; have := Con.top_rk (.when q x.sh); simp only [Con.sh, Con.rk] at this ⊢; omega
  | .till q x => by have := Con.sh_rk x; have := Con.top_rk (.till q x.sh); simp only [Con.sh, Con.rk] at this ⊢; omega
  | .later u x => by
    have h1 := Con.top_rk (.later u x.sh)
    refine Nat.le_trans h1 (rk_later_le (Con.sh_rk x) fun n k z e => ?_)
    subst e
    have := Con.sh_rk z
    simp only [Con.sh, Con.top]
    split
    · exact .inr (.inr rfl)
    · split
      · exact .inl this
      · exact .inr (.inl ⟨z.sh, rfl, this⟩)

def spDelayed : SpM := fun ds m Q _ => ∃ (h : Int) (x : Con), ds = [.int h, x.d] ∧ Q (laterC h x).d m
theorem laterC_o {h : Int} {x : Con} (n : x.wd ≠ "later") : laterC h x = if h = 0 then x else .later h x := by
  cases x with
  | later k y => exact (n rfl).elim
  | _ => rfl
abbrev s_delayed : Stmt := topS 16
theorem sc_delayed : FnScope ["hours", "contract"] ["hours", "contract"] (defScope s_delayed) := ⟨rfl, rfl, rfl, by decide +kernel, rfl, by decide +kernel, by decide +kernel⟩
theorem ok_delayed {k : Nat} (V : Gv K mg) {f_delayed : Addr} {fd_delayed : FuncData} (F : Fun K "delayed" "delayed" s_delayed f_delayed fd_delayed) : FnM P w K mg base CX0 (k + 1) f_delayed fd_delayed ["hours", "contract"] (spDelayed) := by
  refine fn_m F sc_delayed (fun ds m Q E h => ?_) (fun cdv A outer s H ds m Q E E' hr h => ?_)
  · obtain ⟨h, x, rfl, _⟩ := h; rfl
  have nd := sc_delayed.nd
  obtain ⟨h, x, rfl, q⟩ := h
  refine ⟨_, (mss_cons (ms_if (mw_pt (mw_and (mt_cmp (mo_eqq hr) (mx_ix (mi_sub hr) (mv 1) mx_int) mx_str (nomark _)) (mw_and1 (mt_cmp mo_le (mx_op mo_plus (mv 0) (mx_ix (mi_sub hr) (mv 1) mx_int)) (mx_gt V.MOST_HOURS) (nomark _))))) (mss_one (ms_ret (mx_tup (ma_cons mx_str (ma_cons (mx_op mo_plus (mv 0) (mx_ix (mi_sub hr) (mv 1) mx_int)) (ma_cons (mx_ix (mi_sub hr) (mv 1) mx_int) ma_nil)))))) mss_nil)
    (mss_one (ms_ret (mx_if (mt_cmp (mo_eqq hr) (mv 0) mx_int (nomark _)) (mv 1) (mx_tup (ma_cons mx_str (ma_cons (mv 0) (ma_cons (mv 1) ma_nil)))))))), ?_⟩
  by_cases hw : x.wd = "later"
  · cases x with
    | later k y =>
      simp only [laterC] at q
      simp only [Con.d]; wtm_at "go"
      refine i_ite (fun c => ?_) (fun c => ?_)
      · rw [if_pos (of_decide_eq_true c)] at q
        wtm_at "go"
        all_goals exact RtM.mk q
      · rw [if_neg (of_decide_eq_false c)] at q
        wtm_at "go"
        refine i_ite (fun c => ?_) (fun c => ?_)
        · rw [if_pos (of_decide_eq_true c)] at q
          wtm_at "go"
          all_goals exact RtM.mk q
        · rw [if_neg (of_decide_eq_false c)] at q
          wtm_at "go"
          all_goals exact RtM.mk q
    | _ => simp [Con.wd, ofString_inj] at hw
  · rw [laterC_o hw] at q
    have hd := x.d_pts
    have q1 : h = 0 → Q x.d m := fun e => by rw [if_pos e] at q; exact q
    have q2 : ¬ h = 0 → Q (.tup [.str "later", .int h, x.d]) m := fun e => by rw [if_neg e] at q; exact q
    rw [hd] at q1 q2 ⊢
    wtm_at "go"
    refine i_iteF (decide_eq_false hw) ?_
    wtm_at "go"
    refine i_ite (fun c => ?_) (fun c => ?_)
    · have := q1 (of_decide_eq_true c)
      wtm_at "go"
      all_goals exact RtM.mk this
    · have := q2 (of_decide_eq_false c)
      wtm_at "go"
      all_goals exact RtM.mk this
def spTurnedOnce : SpM := fun ds m Q _ => ∃ (a b : Str) (x : Con), ds = [(Con.turned a b x).d] ∧ (Con.turned a b x).ly ∧ Q (turnC a b x).d m
theorem turnC_o {a b : Str} {x : Con} (n : x.wd ≠ "turned") (n2 : x.wd ≠ "give") : turnC a b x = .turned a b x := by
  cases x with
  | turned _ _ y => exact (n rfl).elim
  | give _ _ _ _ => exact (n2 rfl).elim
  | _ => rfl
theorem inT_pairs {m : Mem} {a b p q : Str} (h : PyData.strOk a = true ∧ PyData.strOk b = true ∧ PyData.strOk p = true ∧ PyData.strOk q = true) :
    InT m (.tup [.str a, .str b]) (.tup [.tup [.str p, .str q], .tup [.str q, .str p]]) (decide ((p = a ∧ q = b) ∨ (q = a ∧ p = b))) := by
  obtain ⟨h1, h2, h3, h4⟩ := h
  refine ⟨.tuple [.str a, .str b], [.tuple [.str p, .str q], .tuple [.str q, .str p]], .tup (.cons (.str _) (.cons (.str _) .nil)), .tup (.cons (.tup (.cons (.str _) (.cons (.str _) .nil))) (.cons (.tup (.cons (.str _) (.cons (.str _) .nil))) .nil)), ?_, ?_, ?_, ?_⟩
  · simp only [PyData.canLay0, PyData.canLayAll0, h1, h2, Bool.and_self]
  · simp only [PyData.canLay0, PyData.canLayAll0, h3, h4, Bool.and_self]
  · simp [PyData.depth, PyData.depthAll]
  · simp only [List.any_cons, List.any_nil, eqv_t, eqvA_c, eqvA_n, eqv_s, Bool.or_false, Bool.and_true]
    by_cases e1 : p = a
    · by_cases e2 : q = b
      · simp [e1, e2]
      · by_cases e3 : q = a
        · by_cases e4 : p = b
          · exact absurd (e3.trans (e1.symm.trans e4)) e2
          · have e5 : ¬ a = b := fun z => e4 (e1.trans z)
            simp [e1, e2, e3, e5]
        · simp [e1, e2, e3]
    · by_cases e3 : q = a
      · by_cases e4 : p = b
        · simp [e1, e3, e4]
        · simp [e1, e3, e4]
      · simp [e1, e3]
abbrev s_turned_once : Stmt := topS 17
theorem sc_turned_once : FnScope ["contract", "one", "other", "inner"] ["contract"] (defScope s_turned_once) := ⟨rfl, rfl, rfl, by decide +kernel, rfl, by decide +kernel, by decide +kernel⟩
theorem ok_turned_once {k : Nat} (V : Gv K mg) {f_turned_side : Addr} {fd_turned_side : FuncData} (D_turned_side : Df K mg "turned_side" f_turned_side fd_turned_side ["side", "one", "other"]) (G_turned_side : FnM P w K mg base CX0 (k) f_turned_side fd_turned_side ["side", "one", "other"] (spTside)) {f_turned_once : Addr} {fd_turned_once : FuncData} (F : Fun K "turned_once" "turned_once" s_turned_once f_turned_once fd_turned_once) : FnM P w K mg base CX0 (k + 1) f_turned_once fd_turned_once ["contract"] (spTurnedOnce) := by
  refine fn_m F sc_turned_once (fun ds m Q E h => ?_) (fun cdv A outer s H ds m Q E E' hr h => ?_)
  · obtain ⟨a, b, x, rfl, _⟩ := h; rfl
  have nd := sc_turned_once.nd
  obtain ⟨a, b, x, rfl, hly, q⟩ := h
  refine ⟨_, (mss_cons (ms_par3 (i := 1) (j := 2) (l := 3) rfl nd rfl rfl rfl (by decide) (by decide) (by decide) rfl rfl rfl (ma_cons (mx_ix (mi_sub hr) (mv 0) mx_int) (ma_cons (mx_ix (mi_sub hr) (mv 0) mx_int) (ma_cons (mx_ix (mi_sub hr) (mv 0) mx_int) ma_nil))) rfl)
    (mss_cons (ms_if (mw_pt (mw_and (mt_cmp (mo_eqq hr) (mx_ix (mi_sub hr) (mv 3) mx_int) mx_str (nomark _)) (mw_and1 (mt_cmp (mo_inT hr) (mx_tup (ma_cons (mv 1) (ma_cons (mv 2) ma_nil))) (mx_tup (ma_cons (mx_tup (ma_cons (mx_ix (mi_sub hr) (mv 3) mx_int) (ma_cons (mx_ix (mi_sub hr) (mv 3) mx_int) ma_nil))) (ma_cons (mx_tup (ma_cons (mx_ix (mi_sub hr) (mv 3) mx_int) (ma_cons (mx_ix (mi_sub hr) (mv 3) mx_int) ma_nil))) ma_nil))) rfl)))) (mss_one (ms_ret (mx_ix (mi_sub hr) (mv 3) mx_int))) mss_nil)
    (mss_cons (ms_if (mt_cmp (mo_eqq hr) (mx_ix (mi_sub hr) (mv 3) mx_int) mx_str (nomark _)) (mss_one (ms_ret (mx_op mo_plus (mx_tup (ma_cons mx_str (ma_cons (mx_call (Em := noX) G_turned_side hr D_turned_side.m D_turned_side.k D_turned_side.b pass0M (ma_cons (mx_ix (mi_sub hr) (mv 3) mx_int) (ma_cons (mv 1) (ma_cons (mv 2) ma_nil)))) (ma_cons (mx_call (Em := noX) G_turned_side hr D_turned_side.m D_turned_side.k D_turned_side.b pass0M (ma_cons (mx_ix (mi_sub hr) (mv 3) mx_int) (ma_cons (mv 1) (ma_cons (mv 2) ma_nil)))) ma_nil)))) (mx_slice (mv 3) (mo_some mx_int) mo_none)))) mss_nil)
    (mss_one (ms_ret (mv 0)))))), ?_⟩
  have ly1 := hly
  simp only [Con.ly, Con.pd, PyData.canLay0, PyData.canLayAll0, Bool.and_eq_true, Bool.and_true] at ly1
  obtain ⟨_, oa, ob, ox⟩ := ly1
  by_cases hw : x.wd = "turned"
  · cases x with
    | turned p q' y =>
      simp only [Con.pd, PyData.canLay0, PyData.canLayAll0, Bool.and_eq_true, Bool.and_true] at ox
      simp only [turnC] at q
      simp only [Con.d]; wtm_at "go"
      refine i_par3 ?_
      wtm_at "go"
      refine i_thr ?_
      wtm_at "go"
      refine i_inT (inT_pairs ⟨oa, ob, ox.2.1, ox.2.2.1⟩) ?_
      wtm_at "go"
      refine i_ite (fun c => ?_) (fun c => ?_)
      · rw [if_pos (of_decide_eq_true c)] at q
        wtm_at "go"
        all_goals exact RtM.mk q
      · rw [if_neg (of_decide_eq_false c)] at q
        wtm_at "go"
        all_goals exact RtM.mk q
    | _ => simp [Con.wd, ofString_inj] at hw
  · by_cases hw2 : x.wd = "give"
    · cases x with
      | give p q' g t =>
        simp only [turnC] at q
        simp only [Con.d]; wtm_at "go"
        refine i_par3 ?_
        wtm_at "go"
        refine i_thr ?_
        wtm_at "go"
        refine ⟨p, a, b, rfl, ?_⟩
        wtm_at "go"
        refine ⟨q', a, b, rfl, ?_⟩
        wtm_at "go"
        refine ⟨sl (by simp [cutL, HT.sIx]), ?_⟩
        all_goals exact RtM.mk q
      | _ => simp [Con.wd, ofString_inj] at hw2
    · rw [turnC_o hw hw2] at q
      have hd := x.d_pts
      have q1 : Q (.tup [.str "turned", .str a, .str b, x.d]) m := q
      have e0 : (Con.turned a b x).d = .tup [.str "turned", .str a, .str b, x.d] := rfl
      rw [e0]
      rw [hd] at q1 ⊢
      wtm_at "go"
      refine i_par3 ?_
      wtm_at "go"
      refine i_thr ?_
      wtm_at "go"
      refine i_iteF (decide_eq_false hw) ?_
      wtm_at "go"
      refine i_iteF (decide_eq_false hw2) ?_
      wtm_at "go"
      all_goals exact RtM.mk q1
def AsI (q : Asked) : Prop := q.dp < 20 ∧ q.td < 20 ∧ q.sm
def spChosen : SpM := fun ds m Q _ => ∃ (q : Asked) (x y : Con), ds = [(Con.ite q x y).d] ∧ AsI q ∧ x.ly ∧ y.ly ∧ min x.pd.depth y.pd.depth ≤ 64 ∧ Q (iteC q x y).d m
abbrev s_chosen : Stmt := topS 18
theorem sc_chosen : FnScope ["contract", "good"] ["contract"] (defScope s_chosen) := ⟨rfl, rfl, rfl, by decide +kernel, rfl, by decide +kernel, by decide +kernel⟩
theorem isB_opt (o : Option Bool) (b : Bool) : isBl (optD o) b = some (decide (o = some b)) := by
  cases o with
  | none => simp [optD, isBl]
  | some c => simp [optD, isBl]
theorem ok_chosen {k : Nat} {f_sure : Addr} {fd_sure : FuncData} (D_sure : Df K mg "sure" f_sure fd_sure ["asked"]) (G_sure : FnM P w K mg base CX0 (k) f_sure fd_sure ["asked"] (spSure 20)) {f_chosen : Addr} {fd_chosen : FuncData} (F : Fun K "chosen" "chosen" s_chosen f_chosen fd_chosen) : FnM P w K mg base CX0 (k + 1) f_chosen fd_chosen ["contract"] (spChosen) := by
  refine fn_m F sc_chosen (fun ds m Q E h => ?_) (fun cdv A outer s H ds m Q E E' hr h => ?_)
  · obtain ⟨q, x, y, rfl, _⟩ := h; rfl
  have nd := sc_chosen.nd
  obtain ⟨t, x, y, rfl, hq, lx, ly, hdp, q⟩ := h
  refine ⟨_, (mss_cons (ms_set (i := 1) nd rfl (.inl rfl) (mx_call (Em := noX) G_sure hr D_sure.m D_sure.k D_sure.b pass0M (ma_cons (mx_ix (mi_sub hr) (mv 0) mx_int) ma_nil)))
    (mss_cons (ms_if (mw_pt (mw_or (mt_cmp mo_isB (mv 1) mx_bl (nomark _)) (mw_or1 (mt_cmp (mo_eqM hr) (mx_ix (mi_sub hr) (mv 0) mx_int) (mx_ix (mi_sub hr) (mv 0) mx_int) (nomark _))))) (mss_one (ms_ret (mx_ix (mi_sub hr) (mv 0) mx_int))) mss_nil)
    (mss_one (ms_ret (mx_if (mt_cmp mo_isB (mv 1) mx_bl (nomark _)) (mx_ix (mi_sub hr) (mv 0) mx_int) (mv 0)))))), ?_⟩
  simp only [Con.d]; wtm_at "go"
  refine ⟨t, rfl, hq.1, hq.2.1, hq.2.2, ?_⟩
  wtm_at "go"
  refine i_isB (isB_opt _ _) ?_
  wtm_at "go"
  unfold iteC at q
  by_cases c1 : t.su = some true
  · rw [if_pos c1] at q
    refine i_iteT (decide_eq_true c1) ?_
    wtm_at "go"
    all_goals exact RtM.mk q
  · rw [if_neg c1] at q
    refine i_iteF (decide_eq_false c1) ?_
    wtm_at "go"
    refine i_eqM (Con.eqM_con lx ly hdp) ?_
    wtm_at "go"
    refine i_ite (fun c2 => ?_) (fun c2 => ?_)
    · rw [if_pos c2] at q
      wtm_at "go"
      all_goals exact RtM.mk q
    · rw [c2, if_neg Bool.false_ne_true] at q
      wtm_at "go"
      refine i_isB (isB_opt _ _) ?_
      wtm_at "go"
      refine i_ite (fun c3 => ?_) (fun c3 => ?_)
      · rw [if_pos (of_decide_eq_true c3)] at q
        wtm_at "go"
        all_goals exact RtM.mk q
      · rw [if_neg (of_decide_eq_false c3)] at q
        wtm_at "go"
        all_goals exact RtM.mk q
def Con.waits : Con → Prop
  | .when _ _ => True
  | .till _ _ => True
  | _ => False
def Con.cond : Con → Asked
  | .when q _ => q
  | .till q _ => q
  | .ite q _ _ => q
  | _ => .lt (.num 0) (.num 0)
def waitC (c : Con) : Con := match c with
  | .when q x => whenC q x
  | .till q x => tillC q x
  | c => c
def spWaited : SpM := fun ds m Q _ => ∃ c : Con, ds = [c.d] ∧ c.waits ∧ AsI c.cond ∧ Q (waitC c).d m
theorem isN_opt (o : Option Bool) : isN (optD o) = decide (o = none) := by
  cases o with
  | none => rfl
  | some c => simp [optD, isN]
abbrev s_waited : Stmt := topS 19
theorem sc_waited : FnScope ["contract", "good"] ["contract"] (defScope s_waited) := ⟨rfl, rfl, rfl, by decide +kernel, rfl, by decide +kernel, by decide +kernel⟩
theorem ok_waited {k : Nat} (V : Gv K mg) {f_sure : Addr} {fd_sure : FuncData} (D_sure : Df K mg "sure" f_sure fd_sure ["asked"]) (G_sure : FnM P w K mg base CX0 (k) f_sure fd_sure ["asked"] (spSure 20)) {f_waited : Addr} {fd_waited : FuncData} (F : Fun K "waited" "waited" s_waited f_waited fd_waited) : FnM P w K mg base CX0 (k + 1) f_waited fd_waited ["contract"] (spWaited) := by
  refine fn_m F sc_waited (fun ds m Q E h => ?_) (fun cdv A outer s H ds m Q E E' hr h => ?_)
  · obtain ⟨c, rfl, _⟩ := h; rfl
  have nd := sc_waited.nd
  obtain ⟨c, rfl, hw, hq, q⟩ := h
  refine ⟨_, (mss_cons (ms_set (i := 1) nd rfl (.inl rfl) (mx_call (Em := noX) G_sure hr D_sure.m D_sure.k D_sure.b pass0M (ma_cons (mx_ix (mi_sub hr) (mv 0) mx_int) ma_nil)))
    (mss_cons (ms_if (mt_cmp mo_isN (mv 1) mx_non (nomark _)) (mss_one (ms_ret (mv 0))) mss_nil)
    (mss_cons (ms_if (mt_cmp (mo_eqq hr) (mx_ix (mi_sub hr) (mv 0) mx_int) mx_str (nomark _)) (mss_one (ms_ret (mx_if (mt_val (mv 1)) (mx_ix (mi_sub hr) (mv 0) mx_int) (mx_gt V.NONE)))) mss_nil)
    (mss_one (ms_ret (mx_if (mt_val (mv 1)) (mx_gt V.NONE) (mx_ix (mi_sub hr) (mv 0) mx_int))))))), ?_⟩
  cases c with
  | when t x =>
    simp only [Con.cond] at hq
    simp only [Con.d]; wtm_at "go"
    refine ⟨t, rfl, hq.1, hq.2.1, hq.2.2, ?_⟩
    simp only [waitC, whenC] at q
    cases e : t.su with
    | none =>
      rw [e] at q
      simp only [optD]
      wtm_at "go"
      all_goals exact RtM.mk q
    | some b =>
      rw [e] at q
      simp only [optD]
      cases b with
      | true =>
        wtm_at "go"
        all_goals exact RtM.mk (by have h0 := q; simp at h0; exact h0)
      | false =>
        wtm_at "go"
        all_goals exact RtM.mk (by have h0 := q; simp at h0; exact h0)
  | till t x =>
    simp only [Con.cond] at hq
    simp only [Con.d]; wtm_at "go"
    refine ⟨t, rfl, hq.1, hq.2.1, hq.2.2, ?_⟩
    simp only [waitC, tillC] at q
    cases e : t.su with
    | none =>
      rw [e] at q
      simp only [optD]
      wtm_at "go"
      all_goals exact RtM.mk q
    | some b =>
      rw [e] at q
      simp only [optD]
      cases b with
      | true =>
        wtm_at "go"
        all_goals exact RtM.mk (by have h0 := q; simp at h0; exact h0)
      | false =>
        wtm_at "go"
        all_goals exact RtM.mk (by have h0 := q; simp at h0; exact h0)
  | _ => exact hw.elim

theorem Con.eqM_num {m : Mem} {nms : List Str} (hn : WOk nms) {t : Told} (h : t.of nms) : EqM m t.d (.tup [.str "num", .int 0]) t.isZ := by
  refine .inr ⟨_, _, Told.vw t, Told.vw (.num 0), Told.lay hn h, Told.lay hn (t := .num 0) (show (0 : Int).natAbs < 10 ^ 12 by decide), ?_, ?_⟩
  · refine Nat.le_trans (Nat.min_le_right _ _) ?_
    simp [Told.pd, PyData.depth, PyData.depthAll]
  · cases t with
    | num i => by_cases h : i = 0 <;> simp [Told.pd, eqv_t, eqvA_c, eqvA_n, eqv_s, eqv_i, Told.isZ, h]
    | read x => simp [Told.pd, PyData.eqv, PyData.eqvAll, Told.isZ, ofString_inj]
    | bin j a b => cases j <;> simp [Told.pd, PyData.eqv, PyData.eqvAll, Told.isZ, ofString_inj, Jn.w]
theorem Con.wIn_gd {W nms : List Str} {c : Con} (h : c.gd W nms) : (c.wIn (c.inn.map Con.sh)).gd W nms := by
  cases c with
  | no => exact h
  | give a b g t => exact h
  | both x y => exact ⟨Con.sh_gd h.1, Con.sh_gd h.2⟩
  | turned a b x => exact ⟨h.1, Con.sh_gd h.2⟩
  | later u x => exact ⟨h.1, Con.sh_gd h.2⟩
  | often n k x => exact ⟨h.1, Con.sh_gd h.2⟩
  | ite q x y => exact ⟨h.1, Con.sh_gd h.2.1, Con.sh_gd h.2.2⟩
  | when q x => exact ⟨h.1, Con.sh_gd h.2⟩
  | till q x => exact ⟨h.1, Con.sh_gd h.2⟩
theorem Con.wIn_rk (c : Con) : (c.wIn (c.inn.map Con.sh)).rk ≤ c.rk := by
  cases c with
  | no => exact Nat.le_refl _
  | give a b g t => exact Nat.le_refl _
  | both x y => have := Con.sh_rk x; have := Con.sh_rk y; simp only [Con.wIn, Con.inn, hdC, List.map_cons, List.map_nil, List.headD, List.tail, Con.rk]; omega
  | turned a b x => have := Con.sh_rk x; simp only [Con.wIn, Con.inn, hdC, List.map_cons, List.map_nil, List.headD, Con.rk]; omega
  | often n k x => have := Con.sh_rk x; simp only [Con.wIn, Con.inn, hdC, List.map_cons, List.map_nil, List.headD, Con.rk]; omega
  | ite q x y => have := Con.sh_rk x; have := Con.sh_rk y; simp only [Con.wIn, Con.inn, hdC, List.map_cons, List.map_nil, List.headD, List.tail, Con.rk]; omega
  | when q x => have := Con.sh_rk x; simp only [Con.wIn, Con.inn, hdC, List.map_cons, List.map_nil, List.headD, Con.rk]; omega
  | till q x => have := Con.sh_rk x; simp only [Con.wIn, Con.inn, hdC, List.map_cons, List.map_nil, List.headD, Con.rk]; omega
  | later u x =>
    show (Con.later u x.sh).rk ≤ _
    refine rk_later_le (Con.sh_rk x) fun n k z e => ?_
    subst e
    have := Con.sh_rk z
    simp only [Con.sh, Con.top]
    split
    · exact .inr (.inr rfl)
    · split
      · exact .inl this
      · exact .inr (.inl ⟨z.sh, rfl, this⟩)
theorem Con.inn_gd {W nms : List Str} {c x : Con} (h : c.gd W nms) (hx : x ∈ c.inn) : x.gd W nms := by
  cases c with
  | no => cases hx
  | give a b g t => cases hx
  | both x' y' =>
    simp only [Con.inn, List.mem_cons, List.not_mem_nil, or_false] at hx
    rcases hx with rfl | rfl
    · exact h.1
    · exact h.2
  | ite q x' y' =>
    simp only [Con.inn, List.mem_cons, List.not_mem_nil, or_false] at hx
    rcases hx with rfl | rfl
    · exact h.2.1
    · exact h.2.2
  | turned _ _ _ => simp only [Con.inn, List.mem_cons, List.not_mem_nil, or_false] at hx; subst hx; exact h.2
  | later _ _ => simp only [Con.inn, List.mem_cons, List.not_mem_nil, or_false] at hx; subst hx; exact h.2
  | often _ _ _ => simp only [Con.inn, List.mem_cons, List.not_mem_nil, or_false] at hx; subst hx; exact h.2
  | when _ _ => simp only [Con.inn, List.mem_cons, List.not_mem_nil, or_false] at hx; subst hx; exact h.2
  | till _ _ => simp only [Con.inn, List.mem_cons, List.not_mem_nil, or_false] at hx; subst hx; exact h.2
theorem Con.inn_rk {c x : Con} (hx : x ∈ c.inn) : x.rk ≤ c.rk := by
  cases c with
  | no => cases hx
  | give a b g t => cases hx
  | both x' y' =>
    simp only [Con.inn, List.mem_cons, List.not_mem_nil, or_false] at hx
    rcases hx with rfl | rfl <;> simp only [Con.rk] <;> omega
  | ite q x' y' =>
    simp only [Con.inn, List.mem_cons, List.not_mem_nil, or_false] at hx
    rcases hx with rfl | rfl <;> simp only [Con.rk] <;> omega
  | later u y =>
    simp only [Con.inn, List.mem_cons, List.not_mem_nil, or_false] at hx; subst hx
    cases x <;> simp only [Con.rk] <;> omega
  | turned _ _ _ => simp only [Con.inn, List.mem_cons, List.not_mem_nil, or_false] at hx; subst hx; simp only [Con.rk]; omega
  | often _ _ _ => simp only [Con.inn, List.mem_cons, List.not_mem_nil, or_false] at hx; subst hx; simp only [Con.rk]; omega
  | when _ _ => simp only [Con.inn, List.mem_cons, List.not_mem_nil, or_false] at hx; subst hx; simp only [Con.rk]; omega
  | till _ _ => simp only [Con.inn, List.mem_cons, List.not_mem_nil, or_false] at hx; subst hx; simp only [Con.rk]; omega
def spShorter (n : Nat) : SpM := fun ds m Q _ => ∃ (c : Con) (W nms : List Str), ds = [c.d] ∧ WOk W ∧ WOk nms ∧ c.gd W nms ∧ c.rk ≤ 64 ∧ c.dp < n ∧ Q c.sh.d m
abbrev s_shorter : Stmt := topS 15
theorem sc_shorter : FnScope ["contract", "inner", "word", "number"] ["contract"] (defScope s_shorter) := ⟨rfl, rfl, rfl, by decide +kernel, rfl, by decide +kernel, by decide +kernel⟩
theorem ok_shorter {k n : Nat} (V : Gv K mg) {f_with_inner : Addr} {fd_with_inner : FuncData} (D_with_inner : Df K mg "with_inner" f_with_inner fd_with_inner ["contract", "inner"]) (G_with_inner : FnM P w K mg base CX0 (k) f_with_inner fd_with_inner ["contract", "inner"] (spWithInner)) {f_within : Addr} {fd_within : FuncData} (D_within : Df K mg "within" f_within fd_within ["contract"]) (G_within : FnM P w K mg base CX0 (k) f_within fd_within ["contract"] (spWithin)) {f_shorter_number : Addr} {fd_shorter_number : FuncData} (D_shorter_number : Df K mg "shorter_number" f_shorter_number fd_shorter_number ["told"]) (G_shorter_number : FnM P w K mg base CX0 (k) f_shorter_number fd_shorter_number ["told"] (spShN 20)) {f_both_of : Addr} {fd_both_of : FuncData} (D_both_of : Df K mg "both_of" f_both_of fd_both_of ["one", "other"]) (G_both_of : FnM P w K mg base CX0 (k) f_both_of fd_both_of ["one", "other"] (spBothOf)) {f_chosen : Addr} {fd_chosen : FuncData} (D_chosen : Df K mg "chosen" f_chosen fd_chosen ["contract"]) (G_chosen : FnM P w K mg base CX0 (k) f_chosen fd_chosen ["contract"] (spChosen)) {f_turned_once : Addr} {fd_turned_once : FuncData} (D_turned_once : Df K mg "turned_once" f_turned_once fd_turned_once ["contract"]) (G_turned_once : FnM P w K mg base CX0 (k) f_turned_once fd_turned_once ["contract"] (spTurnedOnce)) {f_delayed : Addr} {fd_delayed : FuncData} (D_delayed : Df K mg "delayed" f_delayed fd_delayed ["hours", "contract"]) (G_delayed : FnM P w K mg base CX0 (k) f_delayed fd_delayed ["hours", "contract"] (spDelayed)) {f_waited : Addr} {fd_waited : FuncData} (D_waited : Df K mg "waited" f_waited fd_waited ["contract"]) (G_waited : FnM P w K mg base CX0 (k) f_waited fd_waited ["contract"] (spWaited)) {f_shorter : Addr} {fd_shorter : FuncData} (D_shorter : Df K mg "shorter" f_shorter fd_shorter ["contract"]) (G_shorter : FnM P w K mg base CX0 (k) f_shorter fd_shorter ["contract"] (spShorter n)) (F : Fun K "shorter" "shorter" s_shorter f_shorter fd_shorter) : FnM P w K mg base CX0 (k + 1) f_shorter fd_shorter ["contract"] (spShorter (n + 1)) := by
  refine fn_m F sc_shorter (fun ds m Q E h => ?_) (fun cdv A outer s H ds m Q E E' hr h => ?_)
  · obtain ⟨c, W, nms, rfl, _⟩ := h; rfl
  have nd := sc_shorter.nd
  obtain ⟨c, W, nms, rfl, hW, hN, hg, hk, hd, q⟩ := h
  refine ⟨_, (mss_cons (ms_set (i := 0) nd rfl (.inl rfl) (mx_call (Em := noX) G_with_inner hr D_with_inner.m D_with_inner.k D_with_inner.b pass0M (ma_cons (mv 0) (ma_cons (mx_lc (own := [("inner", 1)]) rfl nd (mi_hid (mx_call (Em := noX) G_within hr D_within.m D_within.k D_within.b pass0M (ma_cons (mv 0) ma_nil))) (blkOk_by (by show blkC ["contract", "inner", "word", "number"] (defScope s_shorter) _ _ = true; decide +kernel)) (fun _ _ _ _ _ => (pg_name (i := 1) nd rfl (Or.inl rfl))) (gok_name (i := 1) (by decide)) (fun _ _ _ _ _ => mts_nil) (fun _ _ _ _ _ => (mx_call (Em := noX) G_shorter hr D_shorter.m D_shorter.k D_shorter.b pass0M (ma_cons (mv 1) ma_nil)))) ma_nil))))
    (mss_cons (ms_set (i := 2) nd rfl (.inl rfl) (mx_ix (mi_sub hr) (mv 0) mx_int))
    (mss_cons (ms_if (mt_cmp (mo_eqq hr) (mv 2) mx_str (nomark _)) (mss_cons (ms_set (i := 3) nd rfl (.inl rfl) (mx_call (Em := noX) G_shorter_number hr D_shorter_number.m D_shorter_number.k D_shorter_number.b pass0M (ma_cons (mx_ix (mi_sub hr) (mv 0) mx_int) ma_nil)))
    (mss_one (ms_ret (mx_if (mt_cmp (mo_eqM hr) (mv 3) (mx_tup (ma_cons mx_str (ma_cons mx_int ma_nil))) (nomark _)) (mx_gt V.NONE) (mx_op mo_plus (mx_slice (mv 0) mo_none (mo_some mx_int)) (mx_tup (ma_cons (mv 3) ma_nil))))))) mss_nil)
    (mss_cons (ms_if (mt_cmp (mo_eqq hr) (mv 2) mx_str (nomark _)) (mss_one (ms_ret (mx_call (Em := noX) G_both_of hr D_both_of.m D_both_of.k D_both_of.b pass0M (ma_cons (mx_ix (mi_sub hr) (mv 0) mx_int) (ma_cons (mx_ix (mi_sub hr) (mv 0) mx_int) ma_nil))))) mss_nil)
    (mss_cons (ms_if (mt_cmp (mo_in hr) (mv 2) (mx_tup (ma_cons mx_str (ma_cons mx_str ma_nil))) rfl) (mss_one (ms_ret (mx_if (mt_cmp (mo_eqq hr) (mv 2) mx_str (nomark _)) (mx_call (Em := noX) G_chosen hr D_chosen.m D_chosen.k D_chosen.b pass0M (ma_cons (mv 0) ma_nil)) (mx_gt V.NONE)))) mss_nil)
    (mss_cons (ms_if (mt_cmp (mo_eqM hr) (mx_ix (mi_sub hr) (mv 0) (mx_neg mx_int)) (mx_gt V.NONE) (nomark _)) (mss_one (ms_ret (mx_gt V.NONE))) mss_nil)
    (mss_cons (ms_if (mt_cmp (mo_eqq hr) (mv 2) mx_str (nomark _)) (mss_one (ms_ret (mx_call (Em := noX) G_turned_once hr D_turned_once.m D_turned_once.k D_turned_once.b pass0M (ma_cons (mv 0) ma_nil)))) mss_nil)
    (mss_cons (ms_if (mt_cmp (mo_eqq hr) (mv 2) mx_str (nomark _)) (mss_one (ms_ret (mx_call (Em := noX) G_delayed hr D_delayed.m D_delayed.k D_delayed.b pass0M (ma_cons (mx_ix (mi_sub hr) (mv 0) mx_int) (ma_cons (mx_ix (mi_sub hr) (mv 0) mx_int) ma_nil))))) mss_nil)
    (mss_cons (ms_if (mt_cmp (mo_eqq hr) (mv 2) mx_str (nomark _)) (mss_one (ms_ret (mx_if (mt_cmp (mo_eqq hr) (mx_ix (mi_sub hr) (mv 0) mx_int) mx_int (nomark _)) (mx_ix (mi_sub hr) (mv 0) mx_int) (mv 0)))) mss_nil)
    (mss_one (ms_ret (mx_call (Em := noX) G_waited hr D_waited.m D_waited.k D_waited.b pass0M (ma_cons (mv 0) ma_nil))))))))))))), ?_⟩
  wtm_at "go"
  refine ⟨c, rfl, fun p hp => ?_⟩
  wtm_at "go"
  refine ⟨_, _, rd_L mput_same, Sub.refl.new hp, .inl hp, ?_⟩
  refine lc_cons (i := 1) Con.sh c.inn_len trivial (fun _ => rfl) (fun x hx R hR => ?_) fun p2 hp2 => ?_
  · wtm_at "go"
    have := Con.inn_rk hx
    exact ⟨x, W, nms, rfl, hW, hN, Con.inn_gd hg hx, by omega, by have := Con.inn_dp hx; omega, hR⟩
  wtm_at "go"
  refine ⟨c, p2, c.inn.map Con.sh, rfl, rd_L mput_same, by rw [List.length_map], ?_⟩
  rw [← Con.sh_in] at q
  have q0 : RtM Q (c.wIn (c.inn.map Con.sh)).top.d (mput m p2 (.lst ((c.inn.map Con.sh).map Con.d))) := RtM.sub (Sub.refl.new hp2) q
  have hg2 := Con.wIn_gd hg
  have hk2 := Nat.le_trans (Con.wIn_rk c) hk
  generalize c.wIn (c.inn.map Con.sh) = e at q0 hg2 hk2 ⊢
  generalize mput m p2 (.lst ((c.inn.map Con.sh).map Con.d)) = M at q0 ⊢
  clear q
  cases e with
  | no =>
    simp only [Con.d]; wtm_at "go"
    refine i_in (in_tup rfl rfl) ?_
    rw [show ([D.str "none", .str "if"].any fun z => eqF z (.str "none")) = true by simp [eqF, ofString_inj]]
    wtm_at "go"
    all_goals exact q0
  | give a b g t =>
    simp only [Con.d]; wtm_at "go"
    refine ⟨t, rfl, by have := hg2.2.2; omega, Told.of_sm hg2.2.1, ?_⟩
    wtm_at "go"
    refine i_eqM (Con.eqM_num hN (Told.sh_of hg2.2.1)) ?_
    simp only [Con.top] at q0
    wtm_at "go"
    refine i_ite (fun cb => ?_) (fun cb => ?_)
    · rw [if_pos cb] at q0
      wtm_at "go"
      all_goals exact q0
    · rw [cb, if_neg Bool.false_ne_true] at q0
      wtm_at "go"
      refine ⟨sl (by simp [cutL, HT.sIx]), ?_⟩
      all_goals exact q0
  | both x y =>
    simp only [Con.d]; wtm_at "go"
    exact ⟨x, y, rfl, Con.lay hW hN hg2.1, Con.lay hW hN hg2.2, q0⟩
  | turned a b x =>
    simp only [Con.d]; wtm_at "go"
    refine i_in (in_tup rfl rfl) ?_
    rw [show ([D.str "none", .str "if"].any fun z => eqF z (.str "turned")) = false by simp [eqF, ofString_inj]]
    wtm_at "go"
    refine i_eqM (Con.eqM_no (Con.lay hW hN hg2.2)) ?_
    simp only [Con.top] at q0
    wtm_at "go"
    refine i_ite (fun cb => ?_) (fun cb => ?_)
    · rw [if_pos cb] at q0
      wtm_at "go"
      all_goals exact q0
    · rw [cb, if_neg Bool.false_ne_true] at q0
      wtm_at "go"
      exact ⟨a, b, x, rfl, Con.lay (c := .turned a b x) hW hN hg2, q0⟩
  | later u x =>
    simp only [Con.d]; wtm_at "go"
    refine i_in (in_tup rfl rfl) ?_
    rw [show ([D.str "none", .str "if"].any fun z => eqF z (.str "later")) = false by simp [eqF, ofString_inj]]
    wtm_at "go"
    refine i_eqM (Con.eqM_no (Con.lay hW hN hg2.2)) ?_
    simp only [Con.top] at q0
    wtm_at "go"
    refine i_ite (fun cb => ?_) (fun cb => ?_)
    · rw [if_pos cb] at q0
      wtm_at "go"
      all_goals exact q0
    · rw [cb, if_neg Bool.false_ne_true] at q0
      wtm_at "go"
      exact ⟨u, x, rfl, q0⟩
  | often n' k' x =>
    simp only [Con.d]; wtm_at "go"
    refine i_in (in_tup rfl rfl) ?_
    rw [show ([D.str "none", .str "if"].any fun z => eqF z (.str "often")) = false by simp [eqF, ofString_inj]]
    wtm_at "go"
    refine i_eqM (Con.eqM_no (Con.lay hW hN hg2.2)) ?_
    simp only [Con.top] at q0
    wtm_at "go"
    refine i_ite (fun cb => ?_) (fun cb => ?_)
    · rw [if_pos cb] at q0
      wtm_at "go"
      all_goals exact q0
    · rw [cb, if_neg Bool.false_ne_true] at q0
      wtm_at "go"
      refine i_ite (fun c1 => ?_) (fun c1 => ?_)
      · rw [if_pos (of_decide_eq_true c1)] at q0
        wtm_at "go"
        all_goals exact q0
      · rw [if_neg (of_decide_eq_false c1)] at q0
        wtm_at "go"
        all_goals exact q0
  | ite q x y =>
    simp only [Con.d]; wtm_at "go"
    refine i_in (in_tup rfl rfl) ?_
    rw [show ([D.str "none", .str "if"].any fun z => eqF z (.str "if")) = true by simp [eqF, ofString_inj]]
    wtm_at "go"
    have hd1 := Con.pd_depth x
    have hd2 := Con.pd_depth y
    simp only [Con.rk] at hk2
    refine ⟨q, x, y, rfl, ⟨by have := hg2.1.2; omega, by have := hg2.1.2; omega, Asked.of_sm hg2.1.1⟩, Con.lay hW hN hg2.2.1, Con.lay hW hN hg2.2.2, by omega, q0⟩
  | when q x =>
    simp only [Con.d]; wtm_at "go"
    refine i_in (in_tup rfl rfl) ?_
    rw [show ([D.str "none", .str "if"].any fun z => eqF z (.str "when")) = false by simp [eqF, ofString_inj]]
    wtm_at "go"
    refine i_eqM (Con.eqM_no (Con.lay hW hN hg2.2)) ?_
    simp only [Con.top] at q0
    wtm_at "go"
    refine i_ite (fun cb => ?_) (fun cb => ?_)
    · rw [if_pos cb] at q0
      wtm_at "go"
      all_goals exact q0
    · rw [cb, if_neg Bool.false_ne_true] at q0
      wtm_at "go"
      exact ⟨.when q x, rfl, trivial, ⟨show q.dp < 20 by have := hg2.1.2; omega, show q.td < 20 by have := hg2.1.2; omega, Asked.of_sm hg2.1.1⟩, q0⟩
  | till q x =>
    simp only [Con.d]; wtm_at "go"
    refine i_in (in_tup rfl rfl) ?_
    rw [show ([D.str "none", .str "if"].any fun z => eqF z (.str "until")) = false by simp [eqF, ofString_inj]]
    wtm_at "go"
    refine i_eqM (Con.eqM_no (Con.lay hW hN hg2.2)) ?_
    simp only [Con.top] at q0
    wtm_at "go"
    refine i_ite (fun cb => ?_) (fun cb => ?_)
    · rw [if_pos cb] at q0
      wtm_at "go"
      all_goals exact q0
    · rw [cb, if_neg Bool.false_ne_true] at q0
      wtm_at "go"
      exact ⟨.till q x, rfl, trivial, ⟨show q.dp < 20 by have := hg2.1.2; omega, show q.td < 20 by have := hg2.1.2; omega, Asked.of_sm hg2.1.1⟩, q0⟩
theorem fin_shorter {c : Nat} (V : Gv K mg) {f_with_inner : Addr} {fd_with_inner : FuncData} (D_with_inner : Df K mg "with_inner" f_with_inner fd_with_inner ["contract", "inner"]) (G_with_inner : FnM P w K mg base CX0 (c) f_with_inner fd_with_inner ["contract", "inner"] (spWithInner)) {f_within : Addr} {fd_within : FuncData} (D_within : Df K mg "within" f_within fd_within ["contract"]) (G_within : FnM P w K mg base CX0 (c) f_within fd_within ["contract"] (spWithin)) {f_shorter_number : Addr} {fd_shorter_number : FuncData} (D_shorter_number : Df K mg "shorter_number" f_shorter_number fd_shorter_number ["told"]) (G_shorter_number : FnM P w K mg base CX0 (c) f_shorter_number fd_shorter_number ["told"] (spShN 20)) {f_both_of : Addr} {fd_both_of : FuncData} (D_both_of : Df K mg "both_of" f_both_of fd_both_of ["one", "other"]) (G_both_of : FnM P w K mg base CX0 (c) f_both_of fd_both_of ["one", "other"] (spBothOf)) {f_chosen : Addr} {fd_chosen : FuncData} (D_chosen : Df K mg "chosen" f_chosen fd_chosen ["contract"]) (G_chosen : FnM P w K mg base CX0 (c) f_chosen fd_chosen ["contract"] (spChosen)) {f_turned_once : Addr} {fd_turned_once : FuncData} (D_turned_once : Df K mg "turned_once" f_turned_once fd_turned_once ["contract"]) (G_turned_once : FnM P w K mg base CX0 (c) f_turned_once fd_turned_once ["contract"] (spTurnedOnce)) {f_delayed : Addr} {fd_delayed : FuncData} (D_delayed : Df K mg "delayed" f_delayed fd_delayed ["hours", "contract"]) (G_delayed : FnM P w K mg base CX0 (c) f_delayed fd_delayed ["hours", "contract"] (spDelayed)) {f_waited : Addr} {fd_waited : FuncData} (D_waited : Df K mg "waited" f_waited fd_waited ["contract"]) (G_waited : FnM P w K mg base CX0 (c) f_waited fd_waited ["contract"] (spWaited)) {f_shorter : Addr} {fd_shorter : FuncData} (D_shorter : Df K mg "shorter" f_shorter fd_shorter ["contract"]) (F : Fun K "shorter" "shorter" s_shorter f_shorter fd_shorter) : ∀ n, FnM P w K mg base CX0 (c + n) f_shorter fd_shorter ["contract"] (spShorter n)
  | 0 => fn_none fun ds m Q E ⟨_, _, _, _, _, _, _, _, h, _⟩ => by omega
  | n + 1 => ok_shorter V D_with_inner (G_with_inner.mono (Nat.le_add_right c n)) D_within (G_within.mono (Nat.le_add_right c n)) D_shorter_number (G_shorter_number.mono (Nat.le_add_right c n)) D_both_of (G_both_of.mono (Nat.le_add_right c n)) D_chosen (G_chosen.mono (Nat.le_add_right c n)) D_turned_once (G_turned_once.mono (Nat.le_add_right c n)) D_delayed (G_delayed.mono (Nat.le_add_right c n)) D_waited (G_waited.mono (Nat.le_add_right c n)) D_shorter (fin_shorter V D_with_inner G_with_inner D_within G_within D_shorter_number G_shorter_number D_both_of G_both_of D_chosen G_chosen D_turned_once G_turned_once D_delayed G_delayed D_waited G_waited D_shorter F n) F

/-! ### contracts that are refused: none of ours -/
def spMust : SpM := fun ds m Q _ => ds = [.bl true] ∧ Q .non m
def spNeedNumber : SpM := fun ds m Q _ => ∃ i l u : Int, ds = [.int i, .int l, .int u] ∧ l ≤ i ∧ i ≤ u ∧ Q .non m
def spNeedTuple : SpM := fun ds m Q _ => ∃ (w : Str) (r : List D) (deep : Int), ds = [.tup (.str w :: r), .int deep] ∧ deep ≤ 12 ∧ Q .non m
/-- a word: one to eight small letters -/
def smallCps : List Nat := (Str.ofString "abcdefghijklmnopqrstuvwxyz").cps.toList
def Wd (x : Str) : Prop := 1 ≤ x.length ∧ x.length ≤ 8 ∧ ∀ c ∈ x.cps.toList, c ∈ smallCps
def spIsWord : SpM := fun ds m Q _ => ∃ x : Str, ds = [.str x] ∧ Wd x ∧ Q (.bl true) m
def Told.nd : Told → Prop
  | .num i => i.natAbs < 10 ^ 12
  | .read x => Wd x
  | .bin _ a b => a.nd ∧ b.nd
def spNeedTold (n : Nat) : SpM := fun ds m Q _ => ∃ (t : Told) (deep : Int), ds = [t.d, .int deep] ∧ t.dp < n ∧ t.nd ∧ deep + t.dp ≤ 12 ∧ Q .non m
theorem Jn.inJ' {x : Str} (h : x = "plus" ∨ x = "minus" ∨ x = "times" ∨ x = "most" ∨ x = "least") : ([D.str "plus", .str "minus", .str "times", .str "most", .str "least"].any fun z => eqF z (.str x)) = true := by
  rcases h with rfl | rfl | rfl | rfl | rfl <;> simp [eqF]
def Asked.nh : Asked → Nat
  | .lt a b => max a.dp b.dp + 1
  | .no a => a.nh + 1
  | .all a b => max a.nh b.nh + 1
  | .any a b => max a.nh b.nh + 1
def Asked.nd : Asked → Prop
  | .lt a b => a.nd ∧ b.nd
  | .no a => a.nd
  | .all a b => a.nd ∧ b.nd
  | .any a b => a.nd ∧ b.nd
def spNeedAsked (n : Nat) : SpM := fun ds m Q _ => ∃ (t : Asked) (deep : Int), ds = [t.d, .int deep] ∧ t.dp < n ∧ t.td < 13 ∧ t.nd ∧ deep + t.nh ≤ 12 ∧ Q .non m
def spNeedSides : SpM := fun ds m Q _ => ∃ x y : Str, ds = [.str x, .str y] ∧ Wd x ∧ Wd y ∧ x ≠ y ∧ Q .non m
/-! ### contracts that are none to refuse -/
def Con.nh : Con → Nat
  | .no => 0
  | .give _ _ _ t => t.dp + 1
  | .both x y => max x.nh y.nh + 1
  | .turned _ _ x => x.nh + 1
  | .later _ x => x.nh + 1
  | .often _ _ x => x.nh + 1
  | .ite q x y => max q.nh (max x.nh y.nh) + 1
  | .when q x => max q.nh x.nh + 1
  | .till q x => max q.nh x.nh + 1
def Asked.nc (q : Asked) : Prop := q.nd ∧ q.dp < 13 ∧ q.td < 13
def Con.nd : Con → Prop
  | .no => True
  | .give a b g t => Wd a ∧ Wd b ∧ Wd g ∧ a ≠ b ∧ t.nd
  | .both x y => x.nd ∧ y.nd
  | .turned a b x => (Wd a ∧ Wd b ∧ a ≠ b) ∧ x.nd
  | .later h x => (0 ≤ h ∧ h ≤ 99) ∧ x.nd
  | .often n k x => (1 ≤ n ∧ n ≤ 9 ∧ 1 ≤ k ∧ k ≤ 99) ∧ x.nd
  | .ite q x y => q.nc ∧ x.nd ∧ y.nd
  | .when q x => q.nc ∧ x.nd
  | .till q x => q.nc ∧ x.nd
def spLook (n : Nat) : SpM := fun ds m Q _ => ∃ (c : Con) (deep : Int), ds = [c.d, .int deep] ∧ c.dp < n ∧ 0 ≤ deep ∧ c.nd ∧ deep + c.nh ≤ 12 ∧ Q .non m
def spNeedCon (n : Nat) : SpM := fun ds m Q _ => ∃ c : Con, ds = [c.d] ∧ c.dp < n ∧ c.nd ∧ c.nh ≤ 11 ∧ Q .non m
/-! ### what is drawn is none to refuse -/
theorem small_mem {n : Nat} (h0 : 97 ≤ n) (h1 : n < 123) : n ∈ smallCps := by
  have h : ∀ k < 26, 97 + k ∈ smallCps := by decide +kernel
  have := h (n - 97) (by omega)
  rwa [show 97 + (n - 97) = n by omega] at this
theorem talk_wd : ∀ x ∈ talkWords, Wd x := by unfold Wd; decide +kernel
theorem word_wd {s : Dr} (B : DrB s) {k : Int} (k0 : 0 ≤ k) : Wd (wordOf s k) := by
  by_cases h : s.talk = 1 ∧ k < 12
  · have e : wordOf s k = (talkWords[k.toNat]?).getD "" := if_pos h
    have hl : k.toNat < talkWords.length := by show _ < 12; omega
    rw [e, List.getElem?_eq_getElem hl]
    exact talk_wd _ (List.getElem_mem hl)
  · have hc := word_cps B h
    have z0 := B.z0
    have z1 := B.z1
    have p0 := B.p0
    have p1 := B.p1
    have h1 : (k + s.turn) % 26 < 26 := Int.emod_lt_of_pos _ (by decide)
    have h2 : 0 ≤ (k + s.turn) % 26 := Int.emod_nonneg _ (by decide)
    have hl : (wordOf s k).length = (wordOf s k).cps.toList.length := (Array.length_toList).symm
    rw [hc, List.length_append, List.length_cons, List.length_replicate, List.length_replicate] at hl
    refine ⟨by omega, by omega, fun c hcm => ?_⟩
    rw [hc] at hcm
    rcases List.mem_append.mp hcm with hcm | hcm
    · have := List.eq_of_mem_replicate hcm
      exact small_mem (by omega) (by omega)
    · rcases List.mem_cons.mp hcm with hcm | hcm
      · exact small_mem (by omega) (by omega)
      · have := List.eq_of_mem_replicate hcm
        exact small_mem (by omega) (by omega)
theorem namesOf_wd {s : Dr} (B : DrB s) {n : Nat} : ∀ x ∈ namesOf s n, Wd x := fun x hx => by
  obtain ⟨j, _, rfl⟩ := List.mem_map.mp hx
  exact word_wd B (by omega)
theorem sides_wd {s : Dr} (B : DrB s) {a b : Str} (h : sidesOf (wordOf s) a b) : (a ∈ wordsOf s ∧ b ∈ wordsOf s ∧ a ≠ b) ∧ Wd a ∧ Wd b ∧ a ≠ b := by
  obtain ⟨i, j, i0, i1, j0, j1, ne, rfl, rfl⟩ := h
  have hn : wordOf s i ≠ wordOf s j := fun e => ne (wordOf_inj B i0 (by omega) j0 (by omega) e)
  exact ⟨⟨wordsOf_mem i0 (by omega), wordsOf_mem j0 (by omega), hn⟩, word_wd B i0, word_wd B j0, hn⟩
theorem Told.of_nd {nms : List Str} (hn : ∀ x ∈ nms, Wd x) : ∀ {t : Told}, t.of nms → t.nd
  | .num _, h => h
  | .read x, h => hn x h
  | .bin _ _ _, h => ⟨Told.of_nd hn h.1, Told.of_nd hn h.2⟩
theorem Asked.of_nd {nms : List Str} (hn : ∀ x ∈ nms, Wd x) : ∀ {t : Asked}, t.of nms → t.nd
  | .lt _ _, h => ⟨Told.of_nd hn h.1, Told.of_nd hn h.2⟩
  | .no a, h => Asked.of_nd hn (t := a) h
  | .all _ _, h => ⟨Asked.of_nd hn h.1, Asked.of_nd hn h.2⟩
  | .any _ _, h => ⟨Asked.of_nd hn h.1, Asked.of_nd hn h.2⟩
theorem Asked.nh_le : ∀ q : Asked, q.nh ≤ q.dp + q.td + 1
  | .lt _ _ => by simp only [Asked.nh, Asked.dp, Asked.td]; omega
  | .no a => by have := Asked.nh_le a; simp only [Asked.nh, Asked.dp, Asked.td]; omega
  | .all a b => by have := Asked.nh_le a; have := Asked.nh_le b; simp only [Asked.nh, Asked.dp, Asked.td]; omega
  | .any a b => by have := Asked.nh_le a; have := Asked.nh_le b; simp only [Asked.nh, Asked.dp, Asked.td]; omega
theorem Asked.of_nc {nms : List Str} (hn : ∀ x ∈ nms, Wd x) {q : Asked} (h : q.of nms) (h1 : q.dp ≤ 2) (h2 : q.td ≤ 1) : q.nc := ⟨Asked.of_nd hn h, by omega, by omega⟩
theorem Con.of_nd {s : Dr} (B : DrB s) {nms : List Str} (hn : ∀ x ∈ nms, Wd x) : ∀ {c : Con}, c.of (wordOf s) nms → c.nd
  | .no, _ => trivial
  | .give a b g t, ⟨h1, ⟨l, l0, l1, eg⟩, ht, hd⟩ => by
    have := (sides_wd B h1).2
    exact ⟨this.1, this.2.1, by rw [eg]; exact word_wd B (by omega), this.2.2, Told.of_nd hn ht⟩
  | .both x y, h => ⟨Con.of_nd B hn h.1, Con.of_nd B hn h.2⟩
  | .turned a b x, h => ⟨(sides_wd B h.1).2, Con.of_nd B hn h.2⟩
  | .later n x, h => ⟨h.1, Con.of_nd B hn h.2⟩
  | .often n k x, h => ⟨⟨h.1.1, h.1.2.1, h.1.2.2.1, by have := h.1.2.2.2; omega⟩, Con.of_nd B hn h.2⟩
  | .ite q x y, h => ⟨Asked.of_nc hn h.1.1 h.1.2.1 h.1.2.2, Con.of_nd B hn h.2.1, Con.of_nd B hn h.2.2⟩
  | .when q x, h => ⟨Asked.of_nc hn h.1.1 h.1.2.1 h.1.2.2, Con.of_nd B hn h.2⟩
  | .till q x, h => ⟨Asked.of_nc hn h.1.1 h.1.2.1 h.1.2.2, Con.of_nd B hn h.2⟩
theorem Con.of_nh {wd : Int → Str} {nms : List Str} : ∀ {c : Con}, c.of wd nms → c.nh ≤ c.dp + 4
  | .no, _ => by simp only [Con.nh]; omega
  | .give a b g t, h => by have := h.2.2.2; simp only [Con.nh]; omega
  | .both x y, h => by have := Con.of_nh h.1; have := Con.of_nh h.2; simp only [Con.nh, Con.dp]; omega
  | .turned a b x, h => by have := Con.of_nh h.2; simp only [Con.nh, Con.dp]; omega
  | .later n x, h => by have := Con.of_nh h.2; simp only [Con.nh, Con.dp]; omega
  | .often n k x, h => by have := Con.of_nh h.2; simp only [Con.nh, Con.dp]; omega
  | .ite q x y, h => by have := Con.of_nh h.2.1; have := Con.of_nh h.2.2; have := q.nh_le; have := h.1.2.1; have := h.1.2.2; simp only [Con.nh, Con.dp]; omega
  | .when q x, h => by have := Con.of_nh h.2; have := q.nh_le; have := h.1.2.1; have := h.1.2.2; simp only [Con.nh, Con.dp]; omega
  | .till q x, h => by have := Con.of_nh h.2; have := q.nh_le; have := h.1.2.1; have := h.1.2.2; simp only [Con.nh, Con.dp]; omega
theorem Con.ch_nh {wd : Int → Str} {nms : List Str} : ∀ {c : Con}, c.ch → c.of wd nms → c.nh ≤ c.dp + 2 ∧ c.rk ≤ 5 * c.dp + 8
  | .no, z, _ => z.elim
  | .give a b g t, z, h => by have := h.2.2.2; simp only [Con.ch] at z; simp only [Con.nh, Con.rk, Con.dp]; omega
  | .both x y, z, h => z.elim
  | .turned a b x, z, h => by have := Con.ch_nh (c := x) z h.2; simp only [Con.nh, Con.rk, Con.dp]; omega
  | .later n x, z, h => by have := Con.ch_nh (c := x) z h.2; have := Con.rk_later (h := n) (x := x); simp only [Con.nh, Con.dp]; omega
  | .often n k x, z, h => by have := Con.ch_nh z.2 h.2; have := z.1; simp only [Con.nh, Con.rk, Con.dp]; omega
  | .ite q x y, z, h => z.elim
  | .when q x, z, h => by have := Con.ch_nh z.2 h.2; have := z.1; have := q.nh_le; have := h.1.2.2; simp only [Con.nh, Con.rk, Con.dp]; omega
  | .till q x, z, h => by have := Con.ch_nh z.2 h.2; have := z.1; have := q.nh_le; have := h.1.2.2; simp only [Con.nh, Con.rk, Con.dp]; omega
/-- good, none to refuse, and of no more -/
structure Con.Fit (W nms : List Str) (r h d : Nat) (c : Con) : Prop where
  g : c.gd W nms
  n : c.nd
  r : c.rk ≤ r
  h : c.nh ≤ h
  d : c.dp ≤ d
theorem Con.of_fit {s : Dr} (B : DrB s) {nms : List Str} (hn : ∀ x ∈ nms, Wd x) {c : Con} (h : c.of (wordOf s) nms) (hd : c.dw) : c.Fit (wordsOf s) nms 41 7 5 := by
  refine ⟨Con.of_gd B h, Con.of_nd B hn h, ?_, ?_, hd.dp⟩
  · rcases hd with hd | ⟨h5, hc⟩
    · have := Con.of_rk h; omega
    · have := (Con.ch_nh hc h).2; omega
  · rcases hd with hd | ⟨h5, hc⟩
    · have := Con.of_nh h; omega
    · have := (Con.ch_nh hc h).1; omega

/-! ### words that do nothing are put round -/
inductive F2 {α β : Type} (R : α → β → Prop) : List α → List β → Prop
  | nil : F2 R [] []
  | cons {x y l l'} : R x y → F2 R l l' → F2 R (x :: l) (y :: l')
theorem F2.snoc {α β : Type} {R : α → β → Prop} {l : List α} {l' : List β} (h : F2 R l l') {x : α} {y : β} (hx : R x y) : F2 R (l ++ [x]) (l' ++ [y]) := by
  induction h with
  | nil => exact .cons hx .nil
  | cons a _ ih => exact .cons a ih
theorem F2.len {α β : Type} {R : α → β → Prop} {l : List α} {l' : List β} (h : F2 R l l') : l'.length = l.length := by
  induction h with
  | nil => rfl
  | cons a _ ih => rw [List.length_cons, List.length_cons, ih]
theorem Con.rk_later_ge {h : Int} {x : Con} : x.rk ≤ (Con.later h x).rk := by cases x <;> simp only [Con.rk] <;> omega
def PtR (R : Con → Con → Prop) : Pt → Pt → Prop
  | .co x, q => ∃ y, q = .co y ∧ R x y
  | p, q => q = p
theorem Con.Fit.up {W nms : List Str} {r h d r' h' d' : Nat} {c : Con} (f : c.Fit W nms r h d) (h1 : r ≤ r') (h2 : h ≤ h') (h3 : d ≤ d') : c.Fit W nms r' h' d' :=
  ⟨f.g, f.n, Nat.le_trans f.r h1, Nat.le_trans f.h h2, Nat.le_trans f.d h3⟩
/-- its inner ones dressed -/
theorem dressed_in {W nms : List Str} {r h d e : Nat} {c : Con} {ps : List Pt} (f : c.Fit W nms r h d) (h1 : 1 ≤ h) (hng : ¬ c.gv)
    (F : F2 (PtR fun x y => y.Fit W nms (x.rk + 8 + 9 * e) (h - 1 + 2 + 2 * e) (x.dp + 2 + 2 * e)) (.wo c.wd :: c.pts) ps) :
    ∃ c' : Con, D.tup (ps.map Pt.d) = c'.d ∧ c'.Fit W nms (r + 9 + 9 * e) (h + 2 + 2 * e) (d + 2 + 2 * e) := by
  obtain ⟨fg, fn, fr, fh, fd⟩ := f
  cases F with
  | cons a F =>
  cases a
  cases c with
  | no =>
    cases F
    exact ⟨.no, rfl, trivial, trivial, by simp only [Con.rk] at fr ⊢; omega, by simp only [Con.nh] at fh ⊢; omega, by simp only [Con.dp] at fd ⊢; omega⟩
  | give _ _ _ _ => exact (hng trivial).elim
  | both x y =>
    rcases F with _ | ⟨⟨x', rfl, fx⟩, _ | ⟨⟨y', rfl, fy⟩, _ | _⟩⟩
    refine ⟨.both x' y', rfl, ⟨fx.g, fy.g⟩, ⟨fx.n, fy.n⟩, ?_, ?_, ?_⟩
    · have := fx.r; have := fy.r; simp only [Con.rk] at fr ⊢; omega
    · have := fx.h; have := fy.h; simp only [Con.nh] at fh ⊢; omega
    · have := fx.d; have := fy.d; simp only [Con.dp] at fd ⊢; omega
  | turned p q x =>
    rcases F with _ | ⟨rfl, _ | ⟨rfl, _ | ⟨⟨x', rfl, fx⟩, _ | _⟩⟩⟩
    refine ⟨.turned p q x', rfl, ⟨fg.1, fx.g⟩, ⟨fn.1, fx.n⟩, ?_, ?_, ?_⟩
    · have := fx.r; simp only [Con.rk] at fr ⊢; omega
    · have := fx.h; simp only [Con.nh] at fh ⊢; omega
    · have := fx.d; simp only [Con.dp] at fd ⊢; omega
  | later u x =>
    rcases F with _ | ⟨rfl, _ | ⟨⟨x', rfl, fx⟩, _ | _⟩⟩
    refine ⟨.later u x', rfl, ⟨fg.1, fx.g⟩, ⟨fn.1, fx.n⟩, ?_, ?_, ?_⟩
    · have := fx.r; have := Con.rk_later (h := u) (x := x'); have := Con.rk_later_ge (h := u) (x := x); omega
    · have := fx.h; simp only [Con.nh] at fh ⊢; omega
    · have := fx.d; simp only [Con.dp] at fd ⊢; omega
  | often u v x =>
    rcases F with _ | ⟨rfl, _ | ⟨rfl, _ | ⟨⟨x', rfl, fx⟩, _ | _⟩⟩⟩
    refine ⟨.often u v x', rfl, ⟨fg.1, fx.g⟩, ⟨fn.1, fx.n⟩, ?_, ?_, ?_⟩
    · have := fx.r; simp only [Con.rk] at fr ⊢; omega
    · have := fx.h; simp only [Con.nh] at fh ⊢; omega
    · have := fx.d; simp only [Con.dp] at fd ⊢; omega
  | ite q x y =>
    rcases F with _ | ⟨rfl, _ | ⟨⟨x', rfl, fx⟩, _ | ⟨⟨y', rfl, fy⟩, _ | _⟩⟩⟩
    refine ⟨.ite q x' y', rfl, ⟨fg.1, fx.g, fy.g⟩, ⟨fn.1, fx.n, fy.n⟩, ?_, ?_, ?_⟩
    · have := fx.r; have := fy.r; simp only [Con.rk] at fr ⊢; omega
    · have := fx.h; have := fy.h; simp only [Con.nh] at fh ⊢; omega
    · have := fx.d; have := fy.d; simp only [Con.dp] at fd ⊢; omega
  | when q x =>
    rcases F with _ | ⟨rfl, _ | ⟨⟨x', rfl, fx⟩, _ | _⟩⟩
    refine ⟨.when q x', rfl, ⟨fg.1, fx.g⟩, ⟨fn.1, fx.n⟩, ?_, ?_, ?_⟩
    · have := fx.r; simp only [Con.rk] at fr ⊢; omega
    · have := fx.h; simp only [Con.nh] at fh ⊢; omega
    · have := fx.d; simp only [Con.dp] at fd ⊢; omega
  | till q x =>
    rcases F with _ | ⟨rfl, _ | ⟨⟨x', rfl, fx⟩, _ | _⟩⟩
    refine ⟨.till q x', rfl, ⟨fg.1, fx.g⟩, ⟨fn.1, fx.n⟩, ?_, ?_, ?_⟩
    · have := fx.r; simp only [Con.rk] at fr ⊢; omega
    · have := fx.h; simp only [Con.nh] at fh ⊢; omega
    · have := fx.d; simp only [Con.dp] at fd ⊢; omega
def firm (u : Int) : Asked := .lt (.num 1) (.bin .plus (.num 1) (.num u))
theorem firm_of {nms : List Str} {u : Int} (h0 : 0 ≤ u) (h1 : u < 2) : (firm u).of nms := ⟨by show (1 : Int).natAbs < 10 ^ 12; decide, by show (1 : Int).natAbs < 10 ^ 12; decide, by show u.natAbs < 10 ^ 12; omega⟩
theorem firm_nd {u : Int} (h0 : 0 ≤ u) (h1 : u < 2) : (firm u).nd := Asked.of_nd (nms := []) (fun _ h => nomatch h) (firm_of h0 h1)
/-- what is put round -/
def dressL (a b : Str) (u : Int) (q : Asked) (c : Con) : List Con :=
  [.both .no c, .both c (.later 2 .no), .later 0 c, .often 1 3 c, .turned a b (.turned b a c), .turned a b (.turned a b c), .ite (firm u) c c, .ite (firm u) c .no, .till (firm u) c, .when (firm u) c, .when (.any (firm u) q) c, .later 2 (.later 97 c)]
theorem dressL_fit {W nms : List Str} {r h d : Nat} {c : Con} {a b : Str} {u : Int} {q : Asked} (f : c.Fit W nms r h d) (h4 : 4 ≤ h) (hs : (a ∈ W ∧ b ∈ W ∧ a ≠ b) ∧ Wd a ∧ Wd b ∧ a ≠ b) (u0 : 0 ≤ u) (u1 : u < 2)
    (qo : q.of nms) (qn : q.nd) (qd : q.dp ≤ 1) (qt : q.td ≤ 1) : ∀ x ∈ dressL a b u q c, x.Fit W nms (r + 8) (h + 2) (d + 2) := by
  obtain ⟨fg, fn, fr, fh, fd⟩ := f
  have fo := firm_of (nms := nms) u0 u1
  have fq : (firm u).nc := ⟨firm_nd u0 u1, by show 0 < 13; omega, by show 1 < 13; omega⟩
  have e1 : (firm u).dp = 0 := rfl
  have e2 : (firm u).td = 1 := rfl
  have e3 : (firm u).nh = 2 := rfl
  have p := c.rk_pos
  have qh := q.nh_le
  have hs2 : (b ∈ W ∧ a ∈ W ∧ b ≠ a) ∧ Wd b ∧ Wd a ∧ b ≠ a := ⟨⟨hs.1.2.1, hs.1.1, hs.1.2.2.symm⟩, hs.2.2.1, hs.2.1, hs.2.2.2.symm⟩
  have k1 := Con.rk_later (h := 2) (x := .no)
  have k2 := Con.rk_later (h := 0) (x := c)
  have k3 := Con.rk_later (h := 2) (x := .later 97 c)
  have k4 := Con.rk_later (h := 97) (x := c)
  have k5 : Con.no.rk = 1 := rfl
  intro x hx
  simp only [dressL, List.mem_cons, List.not_mem_nil, or_false] at hx
  rcases hx with rfl | rfl | rfl | rfl | rfl | rfl | rfl | rfl | rfl | rfl | rfl | rfl
  · exact ⟨⟨trivial, fg⟩, ⟨trivial, fn⟩, by simp only [Con.rk]; omega, by simp only [Con.nh]; omega, by simp only [Con.dp]; omega⟩
  · exact ⟨⟨fg, by decide, trivial⟩, ⟨fn, by decide, trivial⟩, by simp only [Con.rk]; omega, by simp only [Con.nh]; omega, by simp only [Con.dp]; omega⟩
  · exact ⟨⟨by decide, fg⟩, ⟨by decide, fn⟩, by omega, by simp only [Con.nh]; omega, by simp only [Con.dp]; omega⟩
  · exact ⟨⟨by decide, fg⟩, ⟨by decide, fn⟩, by simp only [Con.rk]; omega, by simp only [Con.nh]; omega, by simp only [Con.dp]; omega⟩
  · exact ⟨⟨hs.1, hs2.1, fg⟩, ⟨hs.2, hs2.2, fn⟩, by simp only [Con.rk]; omega, by simp only [Con.nh]; omega, by simp only [Con.dp]; omega⟩
  · exact ⟨⟨hs.1, hs.1, fg⟩, ⟨hs.2, hs.2, fn⟩, by simp only [Con.rk]; omega, by simp only [Con.nh]; omega, by simp only [Con.dp]; omega⟩
  · exact ⟨⟨⟨fo, by omega, by omega⟩, fg, fg⟩, ⟨fq, fn, fn⟩, by simp only [Con.rk]; omega, by simp only [Con.nh]; omega, by simp only [Con.dp]; omega⟩
  · exact ⟨⟨⟨fo, by omega, by omega⟩, fg, trivial⟩, ⟨fq, fn, trivial⟩, by simp only [Con.rk]; omega, by simp only [Con.nh]; omega, by simp only [Con.dp]; omega⟩
  · exact ⟨⟨⟨fo, by omega, by omega⟩, fg⟩, ⟨fq, fn⟩, by simp only [Con.rk]; omega, by simp only [Con.nh]; omega, by simp only [Con.dp]; omega⟩
  · exact ⟨⟨⟨fo, by omega, by omega⟩, fg⟩, ⟨fq, fn⟩, by simp only [Con.rk]; omega, by simp only [Con.nh]; omega, by simp only [Con.dp]; omega⟩
  · exact ⟨⟨⟨⟨fo, qo⟩, by simp only [Asked.dp]; omega, by simp only [Asked.td]; omega⟩, fg⟩, ⟨⟨⟨fq.1, qn⟩, by simp only [Asked.dp]; omega, by simp only [Asked.td]; omega⟩, fn⟩, by simp only [Con.rk, Asked.dp, Asked.td]; omega, by simp only [Con.nh, Asked.nh]; omega, by simp only [Con.dp]; omega⟩
  · exact ⟨⟨by decide, by decide, fg⟩, ⟨by decide, by decide, fn⟩, by omega, by simp only [Con.nh]; omega, by simp only [Con.dp]; omega⟩
theorem Con.Fit.inn {W nms : List Str} {r h d : Nat} {c x : Con} (f : c.Fit W nms r h d) (hx : x ∈ c.inn) : x.Fit W nms x.rk (h - 1) x.dp := by
  obtain ⟨fg, fn, fr, fh, fd⟩ := f
  refine ⟨?_, ?_, Nat.le_refl _, ?_, Nat.le_refl _⟩
  · cases c <;> simp only [Con.inn, List.mem_cons, List.not_mem_nil, or_false] at hx <;> first | (subst hx; exact fg.2) | (rcases hx with rfl | rfl; exact fg.1; exact fg.2) | (rcases hx with rfl | rfl; exact fg.2.1; exact fg.2.2)
  · cases c <;> simp only [Con.inn, List.mem_cons, List.not_mem_nil, or_false] at hx <;> first | (subst hx; exact fn.2) | (rcases hx with rfl | rfl; exact fn.1; exact fn.2) | (rcases hx with rfl | rfl; exact fn.2.1; exact fn.2.2)
  · cases c <;> simp only [Con.inn, List.mem_cons, List.not_mem_nil, or_false] at hx <;> simp only [Con.nh] at fh <;> first | (subst hx; omega) | (rcases hx with rfl | rfl <;> omega)
theorem mput_over {M : Mem} {p a : Addr} {L L' o : O} (n : p ≠ a) : mput (mput (mput M p L) a o) p L' = mput (mput M a o) p L' := by
  funext b
  by_cases e : b = p
  · subst e; rw [mput_same, mput_same]
  · rw [mput_ne e, mput_ne e]
    by_cases e2 : b = a
    · subst e2; rw [mput_same, mput_same]
    · rw [mput_ne e2, mput_ne e2, mput_ne e]
def spDressed (K : PySem.W.Frag) (n : Nat) : SpM := fun ds m Q _ => ∃ (a : Addr) (c : Con) (deep r h d : Nat) (s : Dr) (nms : List Str), ds = [.ref a, c.d, .int deep] ∧ deep < n ∧ 4 + deep ≤ h ∧ c.Fit (wordsOf s) nms r h d ∧ (∀ x ∈ nms, Wd x) ∧ DrI K m a s ∧ DrN m s nms ∧ DrB s ∧
  ∀ (x : Con) s', x.Fit (wordsOf s) nms (r + 8 + 9 * deep) (h + 2 + 2 * deep) (d + 2 + 2 * deep) → s.nx s' → DrI K (mput m a s'.o) a s' → Q x.d (mput m a s'.o)
theorem wordsOf_nx {s s' : Dr} (n : s.nx s') : wordsOf s' = wordsOf s := by unfold wordsOf; rw [wordOf_nx n]
abbrev s__law_dressed : Stmt := topS 34
theorem sc__law_dressed : FnScope ["_law_s", "_law_contract_here", "_law_deep", "_law_word_here", "_law_found", "_law_inner", "_law_way", "_law_one", "_law_other", "_law_firm", "_law_some"] ["_law_s", "_law_contract_here", "_law_deep"] (defScope s__law_dressed) := ⟨rfl, rfl, rfl, by decide +kernel, rfl, by decide +kernel, by decide +kernel⟩
theorem ok_law_dressed {k n : Nat} (Z : Bl mg) {f__law_taken : Addr} {fd__law_taken : FuncData} (D__law_taken : Df K mg "_law_taken" f__law_taken fd__law_taken ["_law_s", "_law_most"]) (G__law_taken : FnM P w K mg base CX0 (k) f__law_taken fd__law_taken ["_law_s", "_law_most"] (spTaken K)) {f__law_sides : Addr} {fd__law_sides : FuncData} (D__law_sides : Df K mg "_law_sides" f__law_sides fd__law_sides ["_law_s"]) (G__law_sides : FnM P w K mg base CX0 (k) f__law_sides fd__law_sides ["_law_s"] (spSides K)) {f__law_asked : Addr} {fd__law_asked : FuncData} (D__law_asked : Df K mg "_law_asked" f__law_asked fd__law_asked ["_law_s", "_law_deep"]) (G__law_asked : FnM P w K mg base CX0 (k) f__law_asked fd__law_asked ["_law_s", "_law_deep"] (spAsked K 2)) {f__law_dressed : Addr} {fd__law_dressed : FuncData} (D__law_dressed : Df K mg "_law_dressed" f__law_dressed fd__law_dressed ["_law_s", "_law_contract_here", "_law_deep"]) (G__law_dressed : FnM P w K mg base CX0 (k) f__law_dressed fd__law_dressed ["_law_s", "_law_contract_here", "_law_deep"] (spDressed K n)) (F : Fun K "_law_dressed" "_law_dressed" s__law_dressed f__law_dressed fd__law_dressed) : FnM P w K mg base CX0 (k + 1) f__law_dressed fd__law_dressed ["_law_s", "_law_contract_here", "_law_deep"] (spDressed K (n + 1)) := by
  refine fn_m F sc__law_dressed (fun ds m Q E h => ?_) (fun cdv A outer s H ds m Q E E' hr h => ?_)
  · obtain ⟨a, c, deep, r, h, d, s, nms, rfl, _⟩ := h; rfl
  have nd := sc__law_dressed.nd
  obtain ⟨a, c, deep, r, h, d, s0, nms, rfl, hdn, h4, fit, hwd, I, N, B, q⟩ := h
  refine ⟨_, (mss_cons (ms_set (i := 3) nd rfl (.inl rfl) (mx_ix (mi_sub hr) (mv 1) mx_int))
    (mss_cons (ms_if (mw_pt (mw_and (mt_cmp mo_gt (mv 2) mx_int (nomark _)) (mw_and1 (mt_cmp (mo_notin hr) (mv 3) (mx_tup (ma_cons mx_str (ma_cons mx_str ma_nil))) rfl)))) (mss_cons (ms_set (i := 4) nd rfl (.inl rfl) (mx_lst ma_nil))
    (mss_cons (ms_for PassesOwn.never rfl (mi_tup (mv 1)) (mg_name (i := 5) nd rfl (.inl rfl)) (mss_cons (ms_if (mw_pt (mw_and (mt_val (mx_callB mc_isinstance2 Z.b_isinstance (ma_cons (mv 5) (ma_cons (mx_ty (T := "tuple") Z.b_tuple) ma_nil)))) (mw_and1 (mt_cmp (mo_notin hr) (mx_ix (mi_sub hr) (mv 5) mx_int) (mx_tup (ma_cons mx_str (ma_cons mx_str (ma_cons mx_str (ma_cons mx_str ma_nil))))) rfl)))) (mss_one (ms_set (i := 5) nd rfl (.inl rfl) (mx_call (Em := noX) G__law_dressed hr D__law_dressed.m D__law_dressed.k D__law_dressed.b pass0M (ma_cons (mv 0) (ma_cons (mv 5) (ma_cons (mx_op mo_sub (mv 2) mx_int) ma_nil)))))) mss_nil)
    (mss_one (ms_expr (mx_append (mv 4) (mv 5))))))
    (mss_one (ms_set (i := 1) nd rfl (.inl rfl) (mx_callTy mc_tuple1 Z.b_tuple (ma_cons (mv 4) ma_nil)))))) mss_nil)
    (mss_cons (ms_set (i := 6) nd rfl (.inl rfl) (mx_call (Em := noX) G__law_taken hr D__law_taken.m D__law_taken.k D__law_taken.b pass0M (ma_cons (mv 0) (ma_cons mx_int ma_nil))))
    (mss_cons (ms_asg (mx_call (Em := noX) G__law_sides hr D__law_sides.m D__law_sides.k D__law_sides.b pass0M (ma_cons (mv 0) ma_nil)) (mg_tup rfl (mgs_cons (mg_name (i := 7) nd rfl (.inl rfl)) (mgs_cons (mg_name (i := 8) nd rfl (.inl rfl)) mgs_nil))))
    (mss_cons (ms_set (i := 9) nd rfl (.inl rfl) (mx_tup (ma_cons mx_str (ma_cons (mx_tup (ma_cons mx_str (ma_cons mx_int ma_nil))) (ma_cons (mx_tup (ma_cons mx_str (ma_cons (mx_tup (ma_cons mx_str (ma_cons mx_int ma_nil))) (ma_cons (mx_tup (ma_cons mx_str (ma_cons (mx_call (Em := noX) G__law_taken hr D__law_taken.m D__law_taken.k D__law_taken.b pass0M (ma_cons (mv 0) (ma_cons mx_int ma_nil))) ma_nil))) ma_nil)))) ma_nil)))))
    (mss_cons (ms_set (i := 10) nd rfl (.inl rfl) (mx_lst (ma_cons (mx_tup (ma_cons mx_str (ma_cons (mx_tup (ma_cons mx_str ma_nil)) (ma_cons (mv 1) ma_nil)))) (ma_cons (mx_tup (ma_cons mx_str (ma_cons (mv 1) (ma_cons (mx_tup (ma_cons mx_str (ma_cons mx_int (ma_cons (mx_tup (ma_cons mx_str ma_nil)) ma_nil)))) ma_nil)))) (ma_cons (mx_tup (ma_cons mx_str (ma_cons mx_int (ma_cons (mv 1) ma_nil)))) ma_nil)))))
    (mss_cons (ms_set (i := 10) nd rfl (.inl rfl) (mx_op mo_plus (mv 10) (mx_lst (ma_cons (mx_tup (ma_cons mx_str (ma_cons mx_int (ma_cons mx_int (ma_cons (mv 1) ma_nil))))) (ma_cons (mx_tup (ma_cons mx_str (ma_cons (mv 7) (ma_cons (mv 8) (ma_cons (mx_tup (ma_cons mx_str (ma_cons (mv 8) (ma_cons (mv 7) (ma_cons (mv 1) ma_nil))))) ma_nil))))) ma_nil)))))
    (mss_cons (ms_set (i := 10) nd rfl (.inl rfl) (mx_op mo_plus (mv 10) (mx_lst (ma_cons (mx_tup (ma_cons mx_str (ma_cons (mv 7) (ma_cons (mv 8) (ma_cons (mx_tup (ma_cons mx_str (ma_cons (mv 7) (ma_cons (mv 8) (ma_cons (mv 1) ma_nil))))) ma_nil))))) (ma_cons (mx_tup (ma_cons mx_str (ma_cons (mv 9) (ma_cons (mv 1) (ma_cons (mv 1) ma_nil))))) ma_nil)))))
    (mss_cons (ms_set (i := 10) nd rfl (.inl rfl) (mx_op mo_plus (mv 10) (mx_lst (ma_cons (mx_tup (ma_cons mx_str (ma_cons (mv 9) (ma_cons (mv 1) (ma_cons (mx_tup (ma_cons mx_str ma_nil)) ma_nil))))) (ma_cons (mx_tup (ma_cons mx_str (ma_cons (mv 9) (ma_cons (mv 1) ma_nil)))) (ma_cons (mx_tup (ma_cons mx_str (ma_cons (mv 9) (ma_cons (mv 1) ma_nil)))) ma_nil))))))
    (mss_cons (ms_set (i := 10) nd rfl (.inl rfl) (mx_op mo_plus (mv 10) (mx_lst (ma_cons (mx_tup (ma_cons mx_str (ma_cons (mx_tup (ma_cons mx_str (ma_cons (mv 9) (ma_cons (mx_call (Em := noX) G__law_asked hr D__law_asked.m D__law_asked.k D__law_asked.b pass0M (ma_cons (mv 0) (ma_cons mx_int ma_nil))) ma_nil)))) (ma_cons (mv 1) ma_nil)))) (ma_cons (mx_tup (ma_cons mx_str (ma_cons mx_int (ma_cons (mx_tup (ma_cons mx_str (ma_cons mx_int (ma_cons (mv 1) ma_nil)))) ma_nil)))) ma_nil)))))
    (mss_one (ms_ret (mx_if (mt_cmp mo_gt (mv 6) mx_int (nomark _)) (mv 1) (mx_ix (mi_sub hr) (mv 10) (mv 6))))))))))))))), ?_⟩
  rw [c.d_pts]; wtm_at "go"
  have hng : ∀ {c : Con}, ([D.str "none", .str "give"].any fun z => eqF z (.str c.wd)) = false → ¬ c.gv := fun {c} h z => by
    cases c with
    | give a b g t => simp [Con.wd, eqF] at h
    | _ => exact z.elim
  refine i_andM (fun ρ' M' => ∃ (c' : Con) (s' : Dr) (x4 x5 : Option D), ρ' = [some (.ref a), some c'.d, some (.int deep), some (.str c.wd), x4, x5, none, none, none, none, none] ∧ c'.Fit (wordsOf s0) nms (r + 9 * deep) (h + 2 * deep) (d + 2 * deep) ∧ s0.nx s' ∧ DrS K m a nms s' M') (fun cb hk => ?_) (fun cb hk => ?_) ?_
  · have cb' : (0 : Int) < deep := of_decide_eq_true cb
    obtain ⟨e, rfl⟩ : ∃ e : Nat, deep = e + 1 := ⟨deep - 1, by omega⟩
    wtm_at "go"
    refine i_notin (in_tup rfl rfl) ?_
    cases hnn : ([D.str "none", .str "give"].any fun z => eqF z (.str c.wd)) with
    | true =>
      refine ⟨false, rfl, ?_⟩
      refine i_iteF rfl ?_
      refine hk _ _ ⟨c, s0, none, none, by rw [c.d_pts]; rfl, fit.up (by omega) (by omega) (by omega), Dr.nx_refl, DrS.start I N⟩
    | false =>
      have hgv := hng hnn
      wtm_at "go"
      intro p hp
      wtm_at "go"
      have hpt : ∀ pt ∈ (Pt.wo c.wd :: c.pts), (∀ t, pt ≠ .tol t) ∧ ∀ x, pt = .co x → x ∈ c.inn := fun pt hpt => by
        rcases List.mem_cons.mp hpt with rfl | hpt
        · exact ⟨fun t z => (by cases z), fun x z => (by cases z)⟩
        · exact ⟨fun t z => (by subst z; exact Con.pts_ng hgv hpt), fun x z => (by subst z; exact Con.pts_c hpt)⟩
      have hlen : (Pt.wo c.wd :: c.pts).length ≤ 10 := by cases c <;> simp [Con.pts]
      have hF0 := fun ps' => dressed_in (ps := ps') (e := e) fit (by omega) hgv
      rw [show D.str c.wd :: c.pts.map Pt.d = (Pt.wo c.wd :: c.pts).map Pt.d from rfl]
      generalize (Pt.wo c.wd :: c.pts) = ps at hpt hlen hF0 ⊢
      have npa : p ≠ a := fun z => by rw [z, I.e] at hp; cases hp
      refine forC_ind (fun rr ρ M => ∃ (l1 l2 l1' : List Pt) (x5 : Option D) (s' : Dr) (M0 : Mem), ps = l1 ++ l2 ∧ rr = l2.map Pt.d ∧ F2 (PtR fun x y => y.Fit (wordsOf s0) nms (x.rk + 8 + 9 * e) (h - 1 + 2 + 2 * e) (x.dp + 2 + 2 * e)) l1 l1' ∧
        ρ = [some (.ref a), some (.tup (ps.map Pt.d)), some (.int ((e + 1 : Nat) : Int)), some (.str c.wd), some (.ref p), x5, none, none, none, none, none] ∧ M = mput M0 p (.lst (l1'.map Pt.d)) ∧ M0 p = none ∧ s0.nx s' ∧ DrS K m a nms s' M0)
        ⟨[], ps, [], none, s0, m, rfl, rfl, .nil, rfl, rfl, hp, Dr.nx_refl, DrS.start I N⟩ ?_ ?_
      · rintro ρ M ⟨l1, l2, l1', x5, s', M0, e1, e2', hF, rfl, rfl, hp0, n', S'⟩
        have : l2 = [] := by simpa using e2'.symm
        subst this
        rw [List.append_nil] at e1
        subst e1
        refine ⟨trivial, ?_⟩
        obtain ⟨c', ec, fc⟩ := hF0 l1' hF
        refine nx_mk ?_
        refine i_setO hk (fun N hN => ?_)
        clear hk
        wtm_at "go"
        refine hN _ _ ⟨c', s', some (.ref p), x5, by rw [ec]; rfl, fc.up (by omega) (by omega) (by omega), n', S'.new hp0⟩
      · rintro d rr ρ M L hK ⟨l1, l2, l1', x5, s', M0, e1, e2', hF, rfl, rfl, hp0, n', S'⟩
        cases l2 with
        | nil => cases e2'
        | cons pt l2 =>
          rw [List.map_cons] at e2'
          cases e2'
          refine ⟨trivial, ?_⟩
          have hin := hpt pt (by rw [e1]; simp)
          have hl1 : (l1'.map Pt.d).length < sizeLine := by
            have := congrArg List.length e1
            have h2 := hF.len
            simp at this
            rw [List.length_map]
            exact small1000 (by omega)
          have fin : ∀ x5 q s2 M0 M', F2 (PtR fun x y => y.Fit (wordsOf s0) nms (x.rk + 8 + 9 * e) (h - 1 + 2 + 2 * e) (x.dp + 2 + 2 * e)) (l1 ++ [pt]) (l1' ++ [q]) → M0 p = none → s0.nx s2 → DrS K m a nms s2 M0 → M' = mput M0 p (.lst (l1'.map Pt.d ++ [q.d])) →
              L [some (.ref a), some (.tup (ps.map Pt.d)), some (.int ((e + 1 : Nat) : Int)), some (.str c.wd), some (.ref p), x5, none, none, none, none, none] M' := fun x5 q s2 M0 M' h1 h2 h3 h4 h5 =>
            hK _ _ ⟨l1 ++ [pt], l2, l1' ++ [q], x5, s2, M0, by rw [e1]; simp, rfl, h1, rfl, by rw [h5]; simp, h2, h3, h4⟩
          clear hK
          cases pt with
          | wo x =>
            simp only [Pt.d]
            wtm_at "go"
            refine ⟨⟨_, rd_L mput_same⟩, ?_⟩
            wtm_at "go"
            refine ⟨_, mput_same, hl1, ?_⟩
            wtm_at "go"
            exact fin _ (.wo x) s' M0 _ (hF.snoc rfl) hp0 n' S' (by rw [mput_mput]; rfl)
          | nu i =>
            simp only [Pt.d]
            wtm_at "go"
            refine ⟨⟨_, rd_L mput_same⟩, ?_⟩
            wtm_at "go"
            refine ⟨_, mput_same, hl1, ?_⟩
            wtm_at "go"
            exact fin _ (.nu i) s' M0 _ (hF.snoc rfl) hp0 n' S' (by rw [mput_mput]; rfl)
          | asq t =>
            obtain ⟨w', r', et, hw'⟩ := t.hd
            simp only [Pt.d]
            wtm_at "go"
            refine i_isi t.ty (by decide) ?_
            rw [et]
            wtm_at "go"
            refine i_notin (in_tup rfl rfl) ?_
            rw [Asked.inW t hw']
            wtm_at "go"
            refine ⟨⟨_, rd_L mput_same⟩, ?_⟩
            wtm_at "go"
            refine ⟨_, mput_same, hl1, ?_⟩
            wtm_at "go"
            exact fin _ (.asq t) s' M0 _ (hF.snoc rfl) hp0 n' S' (by rw [mput_mput, ← et]; rfl)
          | tol t => exact (hin.1 t rfl).elim
          | co x =>
            have hxi := hin.2 x rfl
            simp only [Pt.d]
            wtm_at "go"
            refine i_isi x.ty (by decide) ?_
            rw [x.d_pts]
            wtm_at "go"
            refine i_notin (in_tup rfl rfl) ?_
            rw [x.notW]
            wtm_at "go"
            rw [← x.d_pts]
            have S2 := S'.new (o := .lst (l1'.map Pt.d)) hp0
            have fx := fit.inn hxi
            rw [← wordsOf_nx n'] at fx
            refine ⟨a, x, e, x.rk, h - 1, x.dp, s', nms, by rw [show (((e + 1 : Nat) : Int) - 1) = (e : Int) by omega], by omega, by omega, fx, hwd, S2.I, S2.N, B.nx n', fun y s2 fy n2 I2 => ?_⟩
            rw [wordsOf_nx n'] at fy
            have hpL : mput (mput M0 p (.lst (l1'.map Pt.d))) a s2.o p = some (.lst (l1'.map Pt.d)) := by rw [mput_ne npa]; exact mput_same
            wtm_at "go"
            refine ⟨⟨_, rd_L hpL⟩, ?_⟩
            wtm_at "go"
            refine ⟨_, hpL, hl1, ?_⟩
            wtm_at "go"
            have S3 := S'.on n2 (S'.I.put (s' := s2) n2.1 I2.at0 I2.rest0 I2.mix0 I2.mix1)
            exact fin _ (.co y) s2 (mput M0 a s2.o) _ (hF.snoc ⟨y, rfl, fy⟩) (by rw [mput_ne npa]; exact hp0) (Dr.nx_trans n' n2) S3 (by rw [mput_over npa]; rfl)
  · have cb' : ¬ (0 : Int) < deep := of_decide_eq_false cb
    refine hk _ _ ⟨c, s0, none, none, by rw [c.d_pts]; rfl, fit.up (by omega) (by omega) (by omega), Dr.nx_refl, DrS.start I N⟩
  rintro ρ' M' ⟨c', s', x4, x5, rfl, fit', n', S'⟩
  have B' := B.nx n'
  wtm_at "go"
  refine spTaken.mkS S' (by decide) (by decide) fun way s1 w0 w1 n1 S1 => ?_
  wtm_at "go"
  refine spSides.mkS S1 (B'.nx n1) fun x y s2 hxy n2 S2 => ?_
  have nn2 := Dr.nx_trans n' (Dr.nx_trans n1 n2)
  wtm_at "go"
  refine spTaken.mkS S2 (by decide) (by decide) fun u s3 v0 v1 n3 S3 => ?_
  have nn3 := Dr.nx_trans nn2 n3
  wtm_at "go"
  obtain ⟨L1, hL1⟩ : ∃ L, L = ([.both .no c', .both c' (.later 2 .no), .later 0 c'] : List Con).map Con.d := ⟨_, rfl⟩
  have l1 : L1.length = 3 := by rw [hL1]; rfl
  refine newL_as L1 (by rw [hL1]; rfl) ?_
  intro p1 hp1
  have T1 := S3.new (o := .lst L1) hp1
  have hq1 : (mput (mput (mput (mput M' a s1.o) a s2.o) a s3.o) p1 (.lst L1)) p1 = some (.lst L1) := mput_same
  generalize (mput (mput (mput (mput M' a s1.o) a s2.o) a s3.o) p1 (.lst L1)) = M1 at T1 hq1 ⊢
  generalize hU1 : L1 = U1 at hq1
  have u1 : U1.length = 3 := by rw [← hU1]; exact l1
  wtm_at "go"
  obtain ⟨L2, hL2⟩ : ∃ L, L = ([.often 1 3 c', .turned x y (.turned y x c')] : List Con).map Con.d := ⟨_, rfl⟩
  have l2 : L2.length = 2 := by rw [hL2]; rfl
  refine newL_as L2 (by rw [hL2]; rfl) ?_
  intro p2 hp2
  have T2a := T1.new (o := .lst L2) hp2
  refine i_plusL (mput_new hp2 hq1) mput_same (sl (by omega)) ?_
  obtain ⟨U2, hU2⟩ : ∃ U, U = U1 ++ L2 := ⟨_, rfl⟩
  have u2 : U2.length = 5 := by rw [hU2, List.length_append]; omega
  refine newL_as U2 hU2 ?_
  intro z2 hz2
  have T2 := T2a.new (o := .lst U2) hz2
  have hq2 : (mput (mput M1 p2 (.lst L2)) z2 (.lst U2)) z2 = some (.lst U2) := mput_same
  generalize (mput (mput M1 p2 (.lst L2)) z2 (.lst U2)) = M2 at T2 hq2 ⊢
  clear hp2 hz2 T2a hq1 T1
  wtm_at "go"
  obtain ⟨L3, hL3⟩ : ∃ L, L = ([.turned x y (.turned x y c'), .ite (firm u) c' c'] : List Con).map Con.d := ⟨_, rfl⟩
  have l3 : L3.length = 2 := by rw [hL3]; rfl
  refine newL_as L3 (by rw [hL3]; rfl) ?_
  intro p3 hp3
  have T3a := T2.new (o := .lst L3) hp3
  refine i_plusL (mput_new hp3 hq2) mput_same (sl (by omega)) ?_
  obtain ⟨U3, hU3⟩ : ∃ U, U = U2 ++ L3 := ⟨_, rfl⟩
  have u3 : U3.length = 7 := by rw [hU3, List.length_append]; omega
  refine newL_as U3 hU3 ?_
  intro z3 hz3
  have T3 := T3a.new (o := .lst U3) hz3
  have hq3 : (mput (mput M2 p3 (.lst L3)) z3 (.lst U3)) z3 = some (.lst U3) := mput_same
  generalize (mput (mput M2 p3 (.lst L3)) z3 (.lst U3)) = M3 at T3 hq3 ⊢
  clear hp3 hz3 T3a hq2 T2
  wtm_at "go"
  obtain ⟨L4, hL4⟩ : ∃ L, L = ([.ite (firm u) c' .no, .till (firm u) c', .when (firm u) c'] : List Con).map Con.d := ⟨_, rfl⟩
  have l4 : L4.length = 3 := by rw [hL4]; rfl
  refine newL_as L4 (by rw [hL4]; rfl) ?_
  intro p4 hp4
  have T4a := T3.new (o := .lst L4) hp4
  refine i_plusL (mput_new hp4 hq3) mput_same (sl (by omega)) ?_
  obtain ⟨U4, hU4⟩ : ∃ U, U = U3 ++ L4 := ⟨_, rfl⟩
  have u4 : U4.length = 10 := by rw [hU4, List.length_append]; omega
  refine newL_as U4 hU4 ?_
  intro z4 hz4
  have T4 := T4a.new (o := .lst U4) hz4
  have hq4 : (mput (mput M3 p4 (.lst L4)) z4 (.lst U4)) z4 = some (.lst U4) := mput_same
  generalize (mput (mput M3 p4 (.lst L4)) z4 (.lst U4)) = M4 at T4 hq4 ⊢
  clear hp4 hz4 T4a hq3 T3
  wtm_at "go"
  have nza : z4 ≠ a := fun z => by rw [z, T4.e] at hq4; cases hq4
  refine spAsked.mkS (dp := 1) T4 rfl (by omega) fun qa s4 qd qt qo n4 S4 => ?_
  have hq4' : mput M4 a s4.o z4 = some (.lst U4) := by rw [mput_ne nza]; exact hq4
  generalize mput M4 a s4.o = M5 at S4 hq4' ⊢
  wtm_at "go"
  obtain ⟨L5, hL5⟩ : ∃ L, L = ([.when (.any (firm u) qa) c', .later 2 (.later 97 c')] : List Con).map Con.d := ⟨_, rfl⟩
  have l5 : L5.length = 2 := by rw [hL5]; rfl
  refine newL_as L5 (by rw [hL5]; rfl) ?_
  intro p5 hp5
  have T5a := S4.new (o := .lst L5) hp5
  refine i_plusL (mput_new hp5 hq4') mput_same (sl (by omega)) ?_
  have hD : U4 ++ L5 = (dressL x y u qa c').map Con.d := by rw [hU4, hU3, hU2, ← hU1, hL1, hL2, hL3, hL4, hL5]; rfl
  rw [hD]
  intro z5 hz5
  have T5 := T5a.new (o := .lst ((dressL x y u qa c').map Con.d)) hz5
  have nn4 := Dr.nx_trans nn3 n4
  have fits : ∀ z ∈ dressL x y u qa c', z.Fit (wordsOf s0) nms (r + 8 + 9 * deep) (h + 2 + 2 * deep) (d + 2 + 2 * deep) := fun z hz =>
    (dressL_fit fit' (by omega) (by
      have := sides_wd (B'.nx n1) hxy
      rw [wordsOf_nx (Dr.nx_trans n' n1)] at this
      exact this) v0 v1 qo (Asked.of_nd hwd qo) qd qt z hz).up (by omega) (by omega) (by omega)
  have hl12 : (dressL x y u qa c').length = 12 := rfl
  generalize dressL x y u qa c' = DL at fits hl12 T5 ⊢
  wtm_at "go"
  refine i_ite (fun cw => ?_) (fun cw => ?_)
  · wtm_at "go"
    exact RtM.sub T5.S (q c' s4 (fit'.up (by omega) (by omega) (by omega)) nn4 T5.J)
  · have cw' : ¬ 11 < way := of_decide_eq_false cw
    wtm_at "go"
    have hj : way.toNat < DL.length := by omega
    refine i_subL (d := DL[way.toNat].d) (rd_L mput_same) ?_ ?_
    · have := atI_nat (xs := DL.map Con.d) (j := way.toNat) (v := DL[way.toNat].d) (by simp [hj])
      rw [show ((way.toNat : Nat) : Int) = way by omega] at this
      exact this
    · exact RtM.sub T5.S (q _ s4 (fits _ (List.getElem_mem hj)) nn4 T5.J)
theorem fin_law_dressed {c : Nat} (Z : Bl mg) {f__law_taken : Addr} {fd__law_taken : FuncData} (D__law_taken : Df K mg "_law_taken" f__law_taken fd__law_taken ["_law_s", "_law_most"]) (G__law_taken : FnM P w K mg base CX0 (c) f__law_taken fd__law_taken ["_law_s", "_law_most"] (spTaken K)) {f__law_sides : Addr} {fd__law_sides : FuncData} (D__law_sides : Df K mg "_law_sides" f__law_sides fd__law_sides ["_law_s"]) (G__law_sides : FnM P w K mg base CX0 (c) f__law_sides fd__law_sides ["_law_s"] (spSides K)) {f__law_asked : Addr} {fd__law_asked : FuncData} (D__law_asked : Df K mg "_law_asked" f__law_asked fd__law_asked ["_law_s", "_law_deep"]) (G__law_asked : FnM P w K mg base CX0 (c) f__law_asked fd__law_asked ["_law_s", "_law_deep"] (spAsked K 2)) {f__law_dressed : Addr} {fd__law_dressed : FuncData} (D__law_dressed : Df K mg "_law_dressed" f__law_dressed fd__law_dressed ["_law_s", "_law_contract_here", "_law_deep"]) (F : Fun K "_law_dressed" "_law_dressed" s__law_dressed f__law_dressed fd__law_dressed) : ∀ n, FnM P w K mg base CX0 (c + n) f__law_dressed fd__law_dressed ["_law_s", "_law_contract_here", "_law_deep"] (spDressed K n)
  | 0 => fn_none fun ds m Q E ⟨_, _, _, _, _, _, _, _, _, h, _⟩ => by omega
  | n + 1 => ok_law_dressed Z D__law_taken (G__law_taken.mono (Nat.le_add_right c n)) D__law_sides (G__law_sides.mono (Nat.le_add_right c n)) D__law_asked (G__law_asked.mono (Nat.le_add_right c n)) D__law_dressed (fin_law_dressed Z D__law_taken G__law_taken D__law_sides G__law_sides D__law_asked G__law_asked D__law_dressed F n) F

/-- [f(x) for x in L] that leaves all as it is -/
theorem lc_mapX {α : Type} {chk : Mem → Prop} {ρ : StM} {m : Mem} {QA : List D → Mem → Prop} {te : TEm} {i : Nat} {T : List α} (e : α → D) (f : α → D) (hl : T.length ≤ 1000000) (hk : chk m)
    (h2 : ∀ d, wipeM ((wipeM ρ [i]).set i (some d)) [i] = wipeM ρ [i])
    (he : ∀ x ∈ T, ∀ R : KM, R (f x) m → te ((wipeM ρ [i]).set i (some (e x))) m R) (q : QA (T.map f) m) : lcC chk (gN i) wYes te [i] ρ QA (T.map e) [] m := by
  have zz : 1000000 < sizeLine := by decide
  refine lcC_ind (fun r acc M => M = m ∧ ∃ l1 l2, T = l1 ++ l2 ∧ r = l2.map e ∧ acc = l1.map f) ⟨rfl, [], T, rfl, rfl, rfl⟩ ?_ ?_
  · rintro acc M ⟨rfl, l1, l2, e1, e2, rfl⟩
    have : l2 = [] := by simpa using e2.symm
    subst this
    rw [List.append_nil] at e1
    subst e1
    exact ⟨hk, q⟩
  · rintro d r acc M K hK ⟨rfl, l1, l2, e1, e2, rfl⟩
    cases l2 with
    | nil => cases e2
    | cons x l2 =>
      rw [List.map_cons] at e2
      cases e2
      refine ⟨hk, h2 _, ?_⟩
      show te _ _ _
      have a1 : T.length = l1.length + (l2.length + 1) := by rw [e1]; simp
      refine he x (by rw [e1]; simp) _ ⟨by rw [List.length_map]; omega, hK _ _ ⟨rfl, l1 ++ [x], l2, by rw [e1]; simp, rfl, by simp⟩⟩

/-! ### shorter, as the law tells it -/
/-- [x for x in L if p], L flat things -/
theorem lc_filtD {chk : Mem → Prop} {ρ : StM} {m : Mem} {QA : List D → Mem → Prop} {tt : TTm} {i : Nat} {L : List D} (p : D → Bool) (hl : L.length ≤ 1000) (hk : chk m)
    (h1 : ∀ d, ((wipeM ρ [i]).set i (some d))[i]? = some (some d)) (h2 : ∀ d, wipeM ((wipeM ρ [i]).set i (some d)) [i] = wipeM ρ [i])
    (ht : ∀ x ∈ L, ∀ R : Bool → Mem → Prop, R (p x) m → tt ((wipeM ρ [i]).set i (some x)) m R) (q : QA (L.filter p) m) : lcC chk (gN i) tt (wVar i) [i] ρ QA L [] m := by
  refine lcC_ind (fun r acc M => M = m ∧ ∃ l1, L = l1 ++ r ∧ acc = l1.filter p) ⟨rfl, [], rfl, rfl⟩ ?_ ?_
  · rintro acc M ⟨rfl, l1, e1, rfl⟩
    rw [List.append_nil] at e1
    subst e1
    exact ⟨hk, q⟩
  · rintro d r acc M K hK ⟨rfl, l1, e1, rfl⟩
    refine ⟨hk, h2 _, ht d (by rw [e1]; simp) _ ?_⟩
    have hlen : (l1.filter p).length < sizeLine := by
      have a1 : L.length = l1.length + (r.length + 1) := by rw [e1]; simp
      have a2 := List.length_filter_le p l1
      exact small1000 (by omega)
    cases hp : p d with
    | true =>
      rw [if_pos rfl]
      exact ⟨_, h1 _, hlen, hK _ _ ⟨rfl, l1 ++ [d], by rw [e1]; simp, by simp [hp]⟩⟩
    | false =>
      rw [if_neg Bool.false_ne_true]
      exact hK _ _ ⟨rfl, l1 ++ [d], by rw [e1]; simp, by simp [hp]⟩
theorem Jn.notN (j : Jn) : ([D.str "num", .str "read"].any fun z => eqF z (.str j.w)) = false := by cases j <;> simp [eqF, Jn.w, ofString_inj]
abbrev s__law_short_number : Stmt := topS 35
theorem sc__law_short_number : FnScope ["_law_told_here", "_law_one", "_law_other", "_law_many"] ["_law_told_here"] (defScope s__law_short_number) := ⟨rfl, rfl, rfl, by decide +kernel, rfl, by decide +kernel, by decide +kernel⟩
theorem ok_law_short_number {k n : Nat} (Z : Bl mg) {f__law_value : Addr} {fd__law_value : FuncData} (D__law_value : Df K mg "_law_value" f__law_value fd__law_value ["_law_told_here", "_law_row"]) (G__law_value : FnM P w K mg base CX0 (k) f__law_value fd__law_value ["_law_told_here", "_law_row"] (spNum 13)) {f__law_short_number : Addr} {fd__law_short_number : FuncData} (D__law_short_number : Df K mg "_law_short_number" f__law_short_number fd__law_short_number ["_law_told_here"]) (G__law_short_number : FnM P w K mg base CX0 (k) f__law_short_number fd__law_short_number ["_law_told_here"] (spShN n)) (F : Fun K "_law_short_number" "_law_short_number" s__law_short_number f__law_short_number fd__law_short_number) : FnM P w K mg base CX0 (k + 1) f__law_short_number fd__law_short_number ["_law_told_here"] (spShN (n + 1)) := by
  refine fn_m F sc__law_short_number (fun ds m Q E h => ?_) (fun cdv A outer s H ds m Q E E' hr h => ?_)
  · obtain ⟨t, rfl, _⟩ := h; rfl
  have nd := sc__law_short_number.nd
  obtain ⟨t, rfl, hd, hs, q⟩ := h
  refine ⟨_, (mss_cons (ms_if (mt_cmp (mo_in hr) (mx_ix (mi_sub hr) (mv 0) mx_int) (mx_tup (ma_cons mx_str (ma_cons mx_str ma_nil))) rfl) (mss_one (ms_ret (mv 0))) mss_nil)
    (mss_cons (ms_set (i := 1) nd rfl (.inl rfl) (mx_call (Em := noX) G__law_short_number hr D__law_short_number.m D__law_short_number.k D__law_short_number.b pass0M (ma_cons (mx_ix (mi_sub hr) (mv 0) mx_int) ma_nil)))
    (mss_cons (ms_set (i := 2) nd rfl (.inl rfl) (mx_call (Em := noX) G__law_short_number hr D__law_short_number.m D__law_short_number.k D__law_short_number.b pass0M (ma_cons (mx_ix (mi_sub hr) (mv 0) mx_int) ma_nil)))
    (mss_cons (ms_if (mw_pt (mw_and (mt_cmp (mo_eqq hr) (mx_ix (mi_sub hr) (mv 1) mx_int) mx_str (nomark _)) (mw_and1 (mt_cmp (mo_eqq hr) (mx_ix (mi_sub hr) (mv 2) mx_int) mx_str (nomark _))))) (mss_cons (ms_set (i := 3) nd rfl (.inl rfl) (mx_call (Em := noX) G__law_value hr D__law_value.m D__law_value.k D__law_value.b pass0M (ma_cons (mx_tup (ma_cons (mx_ix (mi_sub hr) (mv 0) mx_int) (ma_cons (mv 1) (ma_cons (mv 2) ma_nil)))) (ma_cons (mx_dnewK) ma_nil))))
    (mss_one (ms_if (mt_cmp mo_lt (mx_callB mc_abs1 Z.b_abs (ma_cons (mv 3) ma_nil)) (mx_op mo_pow mx_int mx_int) (nomark _)) (mss_one (ms_ret (mx_tup (ma_cons mx_str (ma_cons (mv 3) ma_nil))))) mss_nil))) mss_nil)
    (mss_one (ms_ret (mx_tup (ma_cons (mx_ix (mi_sub hr) (mv 0) mx_int) (ma_cons (mv 1) (ma_cons (mv 2) ma_nil)))))))))), ?_⟩
  cases t with
  | num i =>
    simp only [Told.d]; wtm_at "go"
    refine i_in (in_tup rfl rfl) ?_
    rw [show ([D.str "num", .str "read"].any fun z => eqF z (.str "num")) = true by simp [eqF]]
    wtm_at "go"
    all_goals exact RtM.mk q
  | read x =>
    simp only [Told.d]; wtm_at "go"
    refine i_in (in_tup rfl rfl) ?_
    rw [show ([D.str "num", .str "read"].any fun z => eqF z (.str "read")) = true by simp [eqF]]
    wtm_at "go"
    all_goals exact RtM.mk q
  | bin j a b =>
    have ha : a.dp < n := by simp only [Told.dp] at hd; omega
    have hb : b.dp < n := by simp only [Told.dp] at hd; omega
    simp only [Told.d]; wtm_at "go"
    refine i_in (in_tup rfl rfl) ?_
    rw [j.notN]
    wtm_at "go"
    refine ⟨a, rfl, ha, hs.1, ?_⟩
    wtm_at "go"
    refine ⟨b, rfl, hb, hs.2, ?_⟩
    have s1 := Told.sh_sm hs.1
    have s2 := Told.sh_sm hs.2
    have q' : Q (foldT j a.sh b.sh).d m := q
    clear q
    generalize a.sh = x at s1 q' ⊢
    generalize b.sh = y at s2 q' ⊢
    wtm_at "go"
    by_cases hxn : x.isNum = true
    · cases x with
      | num u =>
        simp only [Told.d] at q' ⊢
        wtm_at "go"
        by_cases hyn : y.isNum = true
        · cases y with
          | num v =>
            simp only [Told.d]
            wtm_at "go"
            intro p hp
            wtm_at "go"
            have ok1 : u.natAbs < 2 ^ 50 := Nat.lt_of_le_of_lt s1 (by decide)
            have ok2 : v.natAbs < 2 ^ 50 := Nat.lt_of_le_of_lt s2 (by decide)
            refine ⟨.bin j (.num u) (.num v), p, [], rfl, by simp only [Told.dp]; omega, by omega, rd_K mput_same, ⟨ok1, ok2⟩, ?_⟩
            have hv : Told.val [] (.bin j (.num u) (.num v)) = j.ap u v := rfl
            rw [hv]
            simp only [foldT] at q'
            generalize j.ap u v = z at q' ⊢
            wtm_at "go"
            have e12 : (10 : Int) ^ Int.toNat 12 = 1000000000000 := rfl
            refine i_ite (fun c1 => ?_) (fun c1 => ?_)
            · have c1' := of_decide_eq_true c1
              rw [if_pos (by split at c1' <;> omega)] at q'
              wtm_at "go"
              all_goals exact RtM.sub (Sub.refl.new hp) q'
            · have c1' := of_decide_eq_false c1
              rw [if_neg (by split at c1' <;> omega)] at q'
              wtm_at "go"
              all_goals exact RtM.sub (Sub.refl.new hp) q'
          | _ => cases hyn
        · obtain ⟨r, e⟩ := y.d_hd
          have hw : decide (y.wd = "num") = false := by rw [y.isNum_wd]; simpa using hyn
          have q2 : Q (Told.bin j (.num u) y).d m := by
            cases y with
            | num v => exact (hyn rfl).elim
            | _ => exact q'
          simp only [Told.d] at q2
          rw [e] at q2 ⊢
          wtm_at "go"
          refine i_iteF hw ?_
          wtm_at "go"
          all_goals exact RtM.mk q2
      | _ => cases hxn
    · obtain ⟨r, e⟩ := x.d_hd
      have hw : decide (x.wd = "num") = false := by rw [x.isNum_wd]; simpa using hxn
      have q2 : Q (Told.bin j x y).d m := by
        cases x with
        | num v => exact (hxn rfl).elim
        | _ => exact q'
      simp only [Told.d] at q2
      rw [e] at q2 ⊢
      wtm_at "go"
      refine i_iteF hw ?_
      wtm_at "go"
      all_goals exact RtM.mk q2
theorem fin_law_short_number {c : Nat} (Z : Bl mg) {f__law_value : Addr} {fd__law_value : FuncData} (D__law_value : Df K mg "_law_value" f__law_value fd__law_value ["_law_told_here", "_law_row"]) (G__law_value : FnM P w K mg base CX0 (c) f__law_value fd__law_value ["_law_told_here", "_law_row"] (spNum 13)) {f__law_short_number : Addr} {fd__law_short_number : FuncData} (D__law_short_number : Df K mg "_law_short_number" f__law_short_number fd__law_short_number ["_law_told_here"]) (F : Fun K "_law_short_number" "_law_short_number" s__law_short_number f__law_short_number fd__law_short_number) : ∀ n, FnM P w K mg base CX0 (c + n) f__law_short_number fd__law_short_number ["_law_told_here"] (spShN n)
  | 0 => fn_none fun ds m Q E ⟨_, _, h, _⟩ => by omega
  | n + 1 => ok_law_short_number Z D__law_value (G__law_value.mono (Nat.le_add_right c n)) D__law_short_number (fin_law_short_number Z D__law_value G__law_value D__law_short_number F n) F

theorem cutL_1a {α : Type} {x : α} {xs : List α} : cutL (x :: xs) (some 1) none = xs := by
  rw [cutL_suf (by decide) (by simp only [List.length_cons]; omega)]; rfl
theorem optD_fl (x : Option Bool) : flD (optD x) = true := by cases x <;> rfl
def notN (d : D) : Bool := match d with
  | .non => false
  | _ => true
theorem firm_in (k : Bool) (u v : Option Bool) : ((List.filter notN [optD u, optD v]).any fun z => eqF z (.bl k)) = decide (u = some k ∨ v = some k) := by
  cases k <;> rcases u with _ | _ | _ <;> rcases v with _ | _ | _ <;> rfl
theorem none_in (u v : Option Bool) : ([optD u, optD v].any fun z => eqF z .non) = decide (u = none ∨ v = none) := by
  rcases u with _ | _ | _ <;> rcases v with _ | _ | _ <;> rfl
theorem flat_in (u v : Option Bool) : (List.filter notN [optD u, optD v]).all flD = true := by
  rcases u with _ | _ | _ <;> rcases v with _ | _ | _ <;> rfl
theorem flat_two (u v : Option Bool) : [optD u, optD v].all flD = true := by
  rcases u with _ | _ | _ <;> rcases v with _ | _ | _ <;> rfl
abbrev s__law_sure : Stmt := topS 36
theorem sc__law_sure : FnScope ["_law_asked_here", "_law_one", "_law_other", "_law_told_here", "_law_inner", "_law_strong"] ["_law_asked_here"] (defScope s__law_sure) := ⟨rfl, rfl, rfl, by decide +kernel, rfl, by decide +kernel, by decide +kernel⟩
theorem ok_law_sure {k n : Nat} (Z : Bl mg) {f__law_short_number : Addr} {fd__law_short_number : FuncData} (D__law_short_number : Df K mg "_law_short_number" f__law_short_number fd__law_short_number ["_law_told_here"]) (G__law_short_number : FnM P w K mg base CX0 (k) f__law_short_number fd__law_short_number ["_law_told_here"] (spShN 20)) {f__law_sure : Addr} {fd__law_sure : FuncData} (D__law_sure : Df K mg "_law_sure" f__law_sure fd__law_sure ["_law_asked_here"]) (G__law_sure : FnM P w K mg base CX0 (k) f__law_sure fd__law_sure ["_law_asked_here"] (spSure n)) (F : Fun K "_law_sure" "_law_sure" s__law_sure f__law_sure fd__law_sure) : FnM P w K mg base CX0 (k + 1) f__law_sure fd__law_sure ["_law_asked_here"] (spSure (n + 1)) := by
  refine fn_m F sc__law_sure (fun ds m Q E h => ?_) (fun cdv A outer s H ds m Q E E' hr h => ?_)
  · obtain ⟨t, rfl, _⟩ := h; rfl
  have nd := sc__law_sure.nd
  obtain ⟨t, rfl, hd, htd, hs, q⟩ := h
  refine ⟨_, (mss_cons (ms_if (mt_cmp (mo_eqq hr) (mx_ix (mi_sub hr) (mv 0) mx_int) mx_str (nomark _)) (mss_cons (ms_set (i := 1) nd rfl (.inl rfl) (mx_call (Em := noX) G__law_short_number hr D__law_short_number.m D__law_short_number.k D__law_short_number.b pass0M (ma_cons (mx_ix (mi_sub hr) (mv 0) mx_int) ma_nil)))
    (mss_cons (ms_set (i := 2) nd rfl (.inl rfl) (mx_call (Em := noX) G__law_short_number hr D__law_short_number.m D__law_short_number.k D__law_short_number.b pass0M (ma_cons (mx_ix (mi_sub hr) (mv 0) mx_int) ma_nil)))
    (mss_cons (ms_if (mw_pt (mw_or (mt_cmp (mo_neq hr) (mx_ix (mi_sub hr) (mv 1) mx_int) mx_str (nomark _)) (mw_or1 (mt_cmp (mo_neq hr) (mx_ix (mi_sub hr) (mv 2) mx_int) mx_str (nomark _))))) (mss_one (ms_ret mx_non)) mss_nil)
    (mss_one (ms_ret (mx_cmp mo_lt (mx_ix (mi_sub hr) (mv 1) mx_int) (mx_ix (mi_sub hr) (mv 2) mx_int) (nomark _))))))) mss_nil)
    (mss_cons (ms_setLc (i := 3) (own := [("_law_inner", 4)]) rfl nd rfl rfl (sw_true rfl rfl rfl (by decide +kernel)) (mi_tup (mx_slice (mv 0) (mo_some mx_int) mo_none)) (blkOk_by (by show blkC ["_law_asked_here", "_law_one", "_law_other", "_law_told_here", "_law_inner", "_law_strong"] (defScope s__law_sure) _ _ = true; decide +kernel)) (fun _ _ _ _ _ => (pg_name (i := 4) nd rfl (Or.inl rfl))) (gok_name (i := 4) (by decide)) (fun _ _ _ _ _ => mts_nil) (fun _ _ _ _ _ => (mx_call (Em := noX) G__law_sure hr D__law_sure.m D__law_sure.k D__law_sure.b pass0M (ma_cons (mv 4) ma_nil))))
    (mss_cons (ms_if (mt_cmp (mo_eqq hr) (mx_ix (mi_sub hr) (mv 0) mx_int) mx_str (nomark _)) (mss_one (ms_ret (mx_if (mt_cmp mo_isN (mx_ix (mi_sub hr) (mv 3) mx_int) mx_non (nomark _)) mx_non (mx_not (mx_ix (mi_sub hr) (mv 3) mx_int))))) mss_nil)
    (mss_cons (ms_set (i := 5) nd rfl (.inl rfl) (mx_cmp (mo_eqq hr) (mx_ix (mi_sub hr) (mv 0) mx_int) mx_str (nomark _)))
    (mss_cons (ms_if (mt_cmp (mo_in hr) (mv 5) (mx_lc (own := [("_law_one", 1)]) rfl nd (mi_list (mv 3)) (blkOk_by (by show blkC ["_law_asked_here", "_law_one", "_law_other", "_law_told_here", "_law_inner", "_law_strong"] (defScope s__law_sure) _ _ = true; decide +kernel)) (fun _ _ _ _ _ => (pg_name (i := 1) nd rfl (Or.inl rfl))) (gok_name (i := 1) (by decide)) (fun _ _ _ _ _ => (mts_one (mt_cmp mo_notN (mv 1) mx_non (nomark _)))) (fun _ _ _ _ _ => (mv 1))) rfl) (mss_one (ms_ret (mv 5))) mss_nil)
    (mss_one (ms_ret (mx_if (mt_cmp (mo_in hr) mx_non (mv 3) rfl) mx_non (mx_not (mv 5)))))))))), ?_⟩
  cases t with
  | lt a b =>
    simp only [Asked.td] at htd
    simp only [Asked.d]; wtm_at "go"
    refine ⟨a, rfl, by omega, hs.1, ?_⟩
    wtm_at "go"
    refine ⟨b, rfl, by omega, hs.2, ?_⟩
    simp only [Asked.su] at q
    generalize a.sh = x at q ⊢
    generalize b.sh = y at q ⊢
    by_cases hxn : x.isNum = true
    · cases x with
      | num u =>
        by_cases hyn : y.isNum = true
        · cases y with
          | num v =>
            simp only [Told.d] at q ⊢
            wtm_at "go"
            all_goals exact RtM.mk q
          | _ => cases hyn
        · obtain ⟨r, e⟩ := y.d_hd
          have hw : ¬ y.wd = "num" := by have := y.isNum_wd; intro z; rw [decide_eq_true z] at this; exact hyn this.symm
          have q2 : Q .non m := by
            cases y with
            | num v => exact (hyn rfl).elim
            | _ => exact q
          simp only [Told.d]
          rw [e]
          wtm_at "go"
          rw [decide_eq_false hw]
          wtm_at "go"
          all_goals exact RtM.mk q2
      | _ => cases hxn
    · obtain ⟨r, e⟩ := x.d_hd
      have hw : ¬ x.wd = "num" := by have := x.isNum_wd; intro z; rw [decide_eq_true z] at this; exact hxn this.symm
      have q2 : Q .non m := by
        cases x with
        | num v => exact (hxn rfl).elim
        | _ => exact q
      rw [e]
      wtm_at "go"
      rw [decide_eq_false hw]
      wtm_at "go"
      all_goals exact RtM.mk q2
  | no a =>
    simp only [Asked.td, Asked.dp] at htd hd
    simp only [Asked.d]; wtm_at "go"
    rw [cutL_1a]
    refine lc_mapX (T := [a]) Asked.d (fun x => optD x.su) (by show 1 ≤ 1000000; decide) trivial (fun _ => rfl) (fun x hx R hR => ?_) ?_
    · rw [List.mem_singleton.mp hx] at hR ⊢
      wtm_at "go"
      exact ⟨a, rfl, by omega, htd, hs, hR⟩
    intro p hp
    simp only [List.map_cons, List.map_nil]
    simp only [Asked.su] at q
    generalize a.su = v at q ⊢
    wtm_at "go"
    refine i_subL (d := optD v) (rd_L mput_same) (atI_cons (i := 0) rfl) ?_
    cases v with
    | none =>
      simp only [optD]
      wtm_at "go"
      all_goals exact RtM.sub (Sub.refl.new hp) q
    | some b =>
      simp only [optD]
      wtm_at "go"
      refine i_subL (d := .bl b) (rd_L mput_same) (atI_cons (i := 0) rfl) ?_
      wtm_at "go"
      all_goals exact RtM.sub (Sub.refl.new hp) q
  | all a b =>
    have htd' : a.td < 20 ∧ b.td < 20 := by simp only [Asked.td] at htd; omega
    have hd' : a.dp < n ∧ b.dp < n := by simp only [Asked.dp] at hd; omega
    simp only [Asked.d]; wtm_at "go"
    rw [cutL_1a]
    refine lc_mapX (T := [a, b]) Asked.d (fun x => optD x.su) (by show 2 ≤ 1000000; decide) trivial (fun _ => rfl) (fun x hx R hR => ?_) ?_
    · rcases List.mem_cons.mp hx with rfl | hx
      · wtm_at "go"
        exact ⟨x, rfl, hd'.1, htd'.1, hs.1, hR⟩
      · rw [List.mem_singleton.mp hx] at hR ⊢
        wtm_at "go"
        exact ⟨b, rfl, hd'.2, htd'.2, hs.2, hR⟩
    intro p hp
    simp only [List.map_cons, List.map_nil]
    simp only [Asked.su] at q
    generalize a.su = u at q ⊢
    generalize b.su = v at q ⊢
    wtm_at "go"
    refine ⟨_, rd_L mput_same, ?_⟩
    refine lc_filtD notN (by show 2 ≤ 1000; decide) (rd_L mput_same) (fun _ => rfl) (fun _ => rfl) (fun x hx R hR => ?_) ?_
    · have hx' : ∃ z, x = optD z := by
        rcases List.mem_cons.mp hx with rfl | hx
        · exact ⟨_, rfl⟩
        · exact ⟨_, List.mem_singleton.mp hx⟩
      obtain ⟨z, rfl⟩ := hx'
      cases z with
      | none => simp only [optD] at hR ⊢; wtm_at "go"; all_goals exact ⟨_, rfl, hR⟩
      | some z => simp only [optD] at hR ⊢; wtm_at "go"; all_goals exact ⟨_, rfl, hR⟩
    intro p2 hp2
    have sub2 := Sub.new (o := .lst (List.filter notN [optD u, optD v])) (Sub.refl.new (o := .lst [optD u, optD v]) hp) hp2
    have h1 := mput_new (o := .lst (List.filter notN [optD u, optD v])) hp2 (mput_same (m := m) (a := p) (o := .lst [optD u, optD v]))
    have h2 := mput_same (m := mput m p (.lst [optD u, optD v])) (a := p2) (o := .lst (List.filter notN [optD u, optD v]))
    generalize mput (mput m p (.lst [optD u, optD v])) p2 (.lst (List.filter notN [optD u, optD v])) = M at sub2 h1 h2 ⊢
    wtm_at "go"
    rw [show decide (Str.ofString "all" = Str.ofString "any") = false by simp [ofString_inj]]
    refine i_in (in_lst (rd_L h2) rfl (flat_in u v)) ?_
    rw [firm_in]
    by_cases hf : u = some false ∨ v = some false
    · rw [if_pos hf] at q
      rw [decide_eq_true hf]
      wtm_at "go"
      all_goals exact RtM.sub sub2 q
    · rw [if_neg hf] at q
      rw [decide_eq_false hf]
      wtm_at "go"
      refine i_in (in_lst (rd_L h1) rfl (flat_two u v)) ?_
      rw [none_in]
      by_cases hn : u = none ∨ v = none
      · rw [decide_eq_true hn]
        have q2 : Q .non m := by
          rcases u with _ | _ | _ <;> rcases v with _ | _ | _ <;> first | exact q | (exfalso; revert hf; simp; done) | (exfalso; revert hn; simp; done)
        wtm_at "go"
        all_goals exact RtM.sub sub2 q2
      · rw [decide_eq_false hn]
        have q2 : Q (.bl true) m := by
          rcases u with _ | _ | _ <;> rcases v with _ | _ | _ <;> first | exact q | (exfalso; revert hf; simp; done) | (exfalso; revert hn; simp; done)
        wtm_at "go"
        all_goals exact RtM.sub sub2 q2
  | any a b =>
    have htd' : a.td < 20 ∧ b.td < 20 := by simp only [Asked.td] at htd; omega
    have hd' : a.dp < n ∧ b.dp < n := by simp only [Asked.dp] at hd; omega
    simp only [Asked.d]; wtm_at "go"
    rw [cutL_1a]
    refine lc_mapX (T := [a, b]) Asked.d (fun x => optD x.su) (by show 2 ≤ 1000000; decide) trivial (fun _ => rfl) (fun x hx R hR => ?_) ?_
    · rcases List.mem_cons.mp hx with rfl | hx
      · wtm_at "go"
        exact ⟨x, rfl, hd'.1, htd'.1, hs.1, hR⟩
      · rw [List.mem_singleton.mp hx] at hR ⊢
        wtm_at "go"
        exact ⟨b, rfl, hd'.2, htd'.2, hs.2, hR⟩
    intro p hp
    simp only [List.map_cons, List.map_nil]
    simp only [Asked.su] at q
    generalize a.su = u at q ⊢
    generalize b.su = v at q ⊢
    wtm_at "go"
    refine ⟨_, rd_L mput_same, ?_⟩
    refine lc_filtD notN (by show 2 ≤ 1000; decide) (rd_L mput_same) (fun _ => rfl) (fun _ => rfl) (fun x hx R hR => ?_) ?_
    · have hx' : ∃ z, x = optD z := by
        rcases List.mem_cons.mp hx with rfl | hx
        · exact ⟨_, rfl⟩
        · exact ⟨_, List.mem_singleton.mp hx⟩
      obtain ⟨z, rfl⟩ := hx'
      cases z with
      | none => simp only [optD] at hR ⊢; wtm_at "go"; all_goals exact ⟨_, rfl, hR⟩
      | some z => simp only [optD] at hR ⊢; wtm_at "go"; all_goals exact ⟨_, rfl, hR⟩
    intro p2 hp2
    have sub2 := Sub.new (o := .lst (List.filter notN [optD u, optD v])) (Sub.refl.new (o := .lst [optD u, optD v]) hp) hp2
    have h1 := mput_new (o := .lst (List.filter notN [optD u, optD v])) hp2 (mput_same (m := m) (a := p) (o := .lst [optD u, optD v]))
    have h2 := mput_same (m := mput m p (.lst [optD u, optD v])) (a := p2) (o := .lst (List.filter notN [optD u, optD v]))
    generalize mput (mput m p (.lst [optD u, optD v])) p2 (.lst (List.filter notN [optD u, optD v])) = M at sub2 h1 h2 ⊢
    wtm_at "go"
    rw [show decide (Str.ofString "any" = Str.ofString "any") = true by simp]
    refine i_in (in_lst (rd_L h2) rfl (flat_in u v)) ?_
    rw [firm_in]
    by_cases hf : u = some true ∨ v = some true
    · rw [if_pos hf] at q
      rw [decide_eq_true hf]
      wtm_at "go"
      all_goals exact RtM.sub sub2 q
    · rw [if_neg hf] at q
      rw [decide_eq_false hf]
      wtm_at "go"
      refine i_in (in_lst (rd_L h1) rfl (flat_two u v)) ?_
      rw [none_in]
      by_cases hn : u = none ∨ v = none
      · rw [decide_eq_true hn]
        rw [if_pos hn] at q
        have q2 : Q .non m := q
        wtm_at "go"
        all_goals exact RtM.sub sub2 q2
      · rw [decide_eq_false hn]
        rw [if_neg hn] at q
        have q2 : Q (.bl false) m := q
        wtm_at "go"
        all_goals exact RtM.sub sub2 q2
theorem fin_law_sure {c : Nat} (Z : Bl mg) {f__law_short_number : Addr} {fd__law_short_number : FuncData} (D__law_short_number : Df K mg "_law_short_number" f__law_short_number fd__law_short_number ["_law_told_here"]) (G__law_short_number : FnM P w K mg base CX0 (c) f__law_short_number fd__law_short_number ["_law_told_here"] (spShN 20)) {f__law_sure : Addr} {fd__law_sure : FuncData} (D__law_sure : Df K mg "_law_sure" f__law_sure fd__law_sure ["_law_asked_here"]) (F : Fun K "_law_sure" "_law_sure" s__law_sure f__law_sure fd__law_sure) : ∀ n, FnM P w K mg base CX0 (c + n) f__law_sure fd__law_sure ["_law_asked_here"] (spSure n)
  | 0 => fn_none fun ds m Q E ⟨_, _, h, _⟩ => by omega
  | n + 1 => ok_law_sure Z D__law_short_number (G__law_short_number.mono (Nat.le_add_right c n)) D__law_sure (fin_law_sure Z D__law_short_number G__law_short_number D__law_sure F n) F

theorem Con.eqb_no {x : Con} : x.eqb .no = x.isNo := by
  cases h : x.isNo with
  | true => exact Con.eqb_iff.mpr (Con.isNo_iff.mp h)
  | false =>
    cases h2 : x.eqb .no with
    | false => rfl
    | true => rw [Con.eqb_iff.mp h2] at h; cases h
def spShAsk : SpM := fun ds m Q _ => ∃ (q : Asked) (x : Con), AsI q ∧ x.ly ∧ ((∃ y : Con, ds = [.str "if", q.d, x.d, y.d] ∧ y.ly ∧ min x.pd.depth y.pd.depth ≤ 64 ∧ Q (iteC q x y).d m) ∨
  (ds = [.str "when", q.d, x.d, .non] ∧ Q (if x.isNo = true then Con.no else whenC q x).d m) ∨ (ds = [.str "until", q.d, x.d, .non] ∧ Q (if x.isNo = true then Con.no else tillC q x).d m))
abbrev s__law_short_asked : Stmt := topS 37
theorem sc__law_short_asked : FnScope ["_law_word_here", "_law_asked_here", "_law_inner", "_law_other", "_law_firm"] ["_law_word_here", "_law_asked_here", "_law_inner", "_law_other"] (defScope s__law_short_asked) := ⟨rfl, rfl, rfl, by decide +kernel, rfl, by decide +kernel, by decide +kernel⟩
theorem ok_law_short_asked {k : Nat} (Z : Bl mg) {f__law_sure : Addr} {fd__law_sure : FuncData} (D__law_sure : Df K mg "_law_sure" f__law_sure fd__law_sure ["_law_asked_here"]) (G__law_sure : FnM P w K mg base CX0 (k) f__law_sure fd__law_sure ["_law_asked_here"] (spSure 20)) {f__law_short_asked : Addr} {fd__law_short_asked : FuncData} (F : Fun K "_law_short_asked" "_law_short_asked" s__law_short_asked f__law_short_asked fd__law_short_asked) : FnM P w K mg base CX0 (k + 1) f__law_short_asked fd__law_short_asked ["_law_word_here", "_law_asked_here", "_law_inner", "_law_other"] (spShAsk) := by
  refine fn_m F sc__law_short_asked (fun ds m Q E h => ?_) (fun cdv A outer s H ds m Q E E' hr h => ?_)
  · obtain ⟨q, x, _, _, h⟩ := h
    rcases h with ⟨y, rfl, _⟩ | ⟨rfl, _⟩ | ⟨rfl, _⟩ <;> rfl
  have nd := sc__law_short_asked.nd
  obtain ⟨c, x, ⟨h1, h2, h3⟩, hx, h⟩ := h
  have noly : Con.no.ly := by unfold Con.ly; decide +kernel
  refine ⟨_, (mss_cons (ms_set (i := 4) nd rfl (.inl rfl) (mx_call (Em := noX) G__law_sure hr D__law_sure.m D__law_sure.k D__law_sure.b pass0M (ma_cons (mv 1) ma_nil)))
    (mss_cons (ms_if (mt_cmp (mo_eqq hr) (mv 0) mx_str (nomark _)) (mss_cons (ms_if (mt_cmp mo_isN (mv 4) mx_non (nomark _)) (mss_one (ms_ret (mx_if (mt_cmp (mo_eqM hr) (mv 2) (mv 3) (nomark _)) (mv 2) (mx_tup (ma_cons mx_str (ma_cons (mv 1) (ma_cons (mv 2) (ma_cons (mv 3) ma_nil)))))))) mss_nil)
    (mss_one (ms_ret (mx_if (mt_val (mv 4)) (mv 2) (mv 3))))) mss_nil)
    (mss_cons (ms_if (mw_pt (mw_or (mt_cmp (mo_eqM hr) (mv 2) (mx_tup (ma_cons mx_str ma_nil)) (nomark _)) (mw_or1 (mt_cmp mo_isN (mv 4) mx_non (nomark _))))) (mss_one (ms_ret (mx_if (mt_cmp (mo_eqM hr) (mv 2) (mx_tup (ma_cons mx_str ma_nil)) (nomark _)) (mx_tup (ma_cons mx_str ma_nil)) (mx_tup (ma_cons (mv 0) (ma_cons (mv 1) (ma_cons (mv 2) ma_nil))))))) mss_nil)
    (mss_one (ms_ret (mx_if (mt_cmp (mo_eqq hr) (mv 4) (mx_cmp (mo_eqq hr) (mv 0) mx_str (nomark _)) (nomark _)) (mv 2) (mx_tup (ma_cons mx_str ma_nil)))))))), ?_⟩
  rcases h with ⟨y, rfl, hy, hdep, q⟩ | ⟨rfl, q⟩ | ⟨rfl, q⟩
  · wtm_at "go"
    refine ⟨c, rfl, h1, h2, h3, ?_⟩
    unfold iteC at q
    generalize c.su = v at q
    rcases v with _ | _ | _
    · simp only [optD]
      wtm_at "go"
      refine i_eqM (Con.eqM_con hx hy hdep) ?_
      cases he : x.eqb y with
      | true =>
        rw [if_neg (by simp), if_pos he] at q
        wtm_at "go"
        all_goals exact RtM.mk q
      | false =>
        rw [if_neg (by simp), if_neg (by rw [he]; simp), if_neg (by simp)] at q
        wtm_at "go"
        all_goals exact RtM.mk q
    · simp only [optD]
      have q2 : Q y.d m := by
        rw [if_neg (by simp)] at q
        by_cases he : x.eqb y = true
        · rw [if_pos he, Con.eqb_iff.mp he] at q; exact q
        · rw [if_neg he, if_pos rfl] at q; exact q
      wtm_at "go"
      all_goals exact RtM.mk q2
    · simp only [optD]
      rw [if_pos rfl] at q
      wtm_at "go"
      all_goals exact RtM.mk q
  · wtm_at "go"
    refine ⟨c, rfl, h1, h2, h3, ?_⟩
    unfold whenC at q
    generalize c.su = v at q
    wtm_at "go"
    refine i_eqM (y := Con.no.d) (Con.eqM_con hx (y := .no) noly (Nat.le_trans (Nat.min_le_right _ _) (by simp [Con.pd, PyData.depth, PyData.depthAll]))) ?_
    rw [Con.eqb_no]
    cases hn : x.isNo with
    | true =>
      rw [hn, if_pos rfl] at q
      wtm_at "go"
      refine i_eqM (y := Con.no.d) (Con.eqM_con hx (y := .no) noly (Nat.le_trans (Nat.min_le_right _ _) (by simp [Con.pd, PyData.depth, PyData.depthAll]))) ?_
      rw [Con.eqb_no, hn]
      wtm_at "go"
      all_goals exact RtM.mk q
    | false =>
      rw [hn, if_neg Bool.false_ne_true] at q
      rcases v with _ | _ | _
      · rw [if_pos rfl] at q
        simp only [optD]
        wtm_at "go"
        refine i_eqM (y := Con.no.d) (Con.eqM_con hx (y := .no) noly (Nat.le_trans (Nat.min_le_right _ _) (by simp [Con.pd, PyData.depth, PyData.depthAll]))) ?_
        rw [Con.eqb_no, hn]
        wtm_at "go"
        all_goals exact RtM.mk q
      · have q2 : Q Con.no.d m := by simpa using q
        simp only [optD]
        wtm_at "go"
        all_goals exact RtM.mk q2
      · have q2 : Q x.d m := by simpa using q
        simp only [optD]
        wtm_at "go"
        all_goals exact RtM.mk q2
  · wtm_at "go"
    refine ⟨c, rfl, h1, h2, h3, ?_⟩
    unfold tillC at q
    generalize c.su = v at q
    wtm_at "go"
    refine i_eqM (y := Con.no.d) (Con.eqM_con hx (y := .no) noly (Nat.le_trans (Nat.min_le_right _ _) (by simp [Con.pd, PyData.depth, PyData.depthAll]))) ?_
    rw [Con.eqb_no]
    cases hn : x.isNo with
    | true =>
      rw [hn, if_pos rfl] at q
      wtm_at "go"
      refine i_eqM (y := Con.no.d) (Con.eqM_con hx (y := .no) noly (Nat.le_trans (Nat.min_le_right _ _) (by simp [Con.pd, PyData.depth, PyData.depthAll]))) ?_
      rw [Con.eqb_no, hn]
      wtm_at "go"
      all_goals exact RtM.mk q
    | false =>
      rw [hn, if_neg Bool.false_ne_true] at q
      rcases v with _ | _ | _
      · rw [if_pos rfl] at q
        simp only [optD]
        wtm_at "go"
        refine i_eqM (y := Con.no.d) (Con.eqM_con hx (y := .no) noly (Nat.le_trans (Nat.min_le_right _ _) (by simp [Con.pd, PyData.depth, PyData.depthAll]))) ?_
        rw [Con.eqb_no, hn]
        wtm_at "go"
        all_goals exact RtM.mk q
      · have q2 : Q x.d m := by simpa using q
        simp only [optD]
        wtm_at "go"
        all_goals exact RtM.mk q2
      · have q2 : Q Con.no.d m := by simpa using q
        simp only [optD]
        wtm_at "go"
        all_goals exact RtM.mk q2

def manyD (d : D) : Bool := match d with
  | .tup [_] => false
  | _ => true
theorem manyD_con (x : Con) : manyD x.d = !x.isNo := by cases x <;> rfl
theorem two_perm {p q a b : Str} : [p, q].Perm [a, b] ↔ (p = a ∧ q = b) ∨ (q = a ∧ p = b) := by
  constructor
  · intro h
    rcases List.mem_cons.mp (h.mem_iff.mp List.mem_cons_self) with rfl | hp
    · have := List.singleton_perm_singleton.mp (List.Perm.cons_inv h)
      exact .inl ⟨rfl, this⟩
    · have hp := List.mem_singleton.mp hp
      subst hp
      have := List.singleton_perm_singleton.mp (List.Perm.cons_inv (h.trans (List.Perm.swap _ _ _)))
      exact .inr ⟨this, rfl⟩
  · rintro (⟨rfl, rfl⟩ | ⟨rfl, rfl⟩)
    · exact List.Perm.refl _
    · exact List.Perm.swap _ _ _
theorem eqv_strL : ∀ k l : List Str, PyData.eqvAll (k.map PyData.str) (l.map PyData.str) = decide (k = l)
  | [], [] => by simp [PyData.eqvAll]
  | [], _ :: _ => by simp [PyData.eqvAll]
  | _ :: _, [] => by simp [PyData.eqvAll]
  | x :: k, y :: l => by
    simp only [List.map_cons, PyData.eqvAll, eqv_strL k l, eqv_s]
    by_cases h1 : x = y <;> by_cases h2 : k = l <;> simp [h1, h2]
theorem lay_strL : ∀ k : List Str, (∀ x ∈ k, PyData.strOk x = true) → PyData.canLayAll0 (k.map PyData.str) = true ∧ PyData.depthAll (k.map PyData.str) = 0
  | [], _ => ⟨rfl, rfl⟩
  | x :: k, h => by
    obtain ⟨h1, h2⟩ := lay_strL k fun y hy => h y (List.mem_cons_of_mem _ hy)
    have h3 := h x List.mem_cons_self
    exact ⟨by simp only [List.map_cons, PyData.canLayAll0, PyData.canLay0, h1, h3, Bool.and_self], by simp only [List.map_cons, PyData.depthAll, PyData.depth, h2]; rfl⟩
theorem vw_strL {m : Mem} : ∀ k : List Str, VwA m (k.map D.str) (k.map PyData.str)
  | [] => .nil
  | x :: k => .cons (.str x) (vw_strL k)
theorem eq_strs {m : Mem} {a b : Addr} {k l : List Str} (h1 : rdM m a = some (.lst (k.map D.str))) (h2 : rdM m b = some (.lst (l.map D.str))) (ok : ∀ x ∈ k, PyData.strOk x = true) (ok2 : ∀ x ∈ l, PyData.strOk x = true) : EqB m (.ref a) (.ref b) (decide (k = l)) := by
  have sh : ∀ k : List Str, (∀ x ∈ k, PyData.strOk x = true) → SeqAt.shaped (.list (k.map PyData.str)) = true := fun k ok => by
    obtain ⟨h3, h4⟩ := lay_strL k ok
    unfold SeqAt.shaped
    rw [show PyData.canLay0 (.list (k.map PyData.str)) = true by simp only [PyData.canLay0, h3], Bool.true_and]
    exact decide_eq_true (by simp only [PyData.depth]; omega)
  refine .inr (.inl ⟨_, _, .lst h1 (vw_strL k), .lst h2 (vw_strL l), sh k ok, sh l ok2, ?_⟩)
  simp only [PyData.eqv]
  exact (eqv_strL k l).symm
abbrev s__law_short : Stmt := topS 38
theorem sc__law_short : FnScope ["_law_contract_here", "_law_word_here", "_law_number_here", "_law_last", "_law_first", "_law_rest", "_law_one", "_law_place"] ["_law_contract_here"] (defScope s__law_short) := ⟨rfl, rfl, rfl, by decide +kernel, rfl, by decide +kernel, by decide +kernel⟩
theorem ok_law_short {k n : Nat} (Z : Bl mg) {f__law_short_number : Addr} {fd__law_short_number : FuncData} (D__law_short_number : Df K mg "_law_short_number" f__law_short_number fd__law_short_number ["_law_told_here"]) (G__law_short_number : FnM P w K mg base CX0 (k) f__law_short_number fd__law_short_number ["_law_told_here"] (spShN 20)) {f__law_short_asked : Addr} {fd__law_short_asked : FuncData} (D__law_short_asked : Df K mg "_law_short_asked" f__law_short_asked fd__law_short_asked ["_law_word_here", "_law_asked_here", "_law_inner", "_law_other"]) (G__law_short_asked : FnM P w K mg base CX0 (k) f__law_short_asked fd__law_short_asked ["_law_word_here", "_law_asked_here", "_law_inner", "_law_other"] (spShAsk)) {f__law_short : Addr} {fd__law_short : FuncData} (D__law_short : Df K mg "_law_short" f__law_short fd__law_short ["_law_contract_here"]) (G__law_short : FnM P w K mg base CX0 (k) f__law_short fd__law_short ["_law_contract_here"] (spShorter n)) (F : Fun K "_law_short" "_law_short" s__law_short f__law_short fd__law_short) : FnM P w K mg base CX0 (k + 1) f__law_short fd__law_short ["_law_contract_here"] (spShorter (n + 1)) := by
  refine fn_m F sc__law_short (fun ds m Q E h => ?_) (fun cdv A outer s H ds m Q E E' hr h => ?_)
  · obtain ⟨c, W, nms, rfl, _⟩ := h; rfl
  have nd := sc__law_short.nd
  obtain ⟨c, W, nms, rfl, hW, hN, hg, hk, hd, q⟩ := h
  have noly : Con.no.ly := by unfold Con.ly; decide +kernel
  refine ⟨_, (mss_cons (ms_set (i := 1) nd rfl (.inl rfl) (mx_ix (mi_sub hr) (mv 0) mx_int))
    (mss_cons (ms_if (mt_cmp (mo_eqq hr) (mv 1) mx_str (nomark _)) (mss_one (ms_ret (mv 0))) mss_nil)
    (mss_cons (ms_if (mt_cmp (mo_eqq hr) (mv 1) mx_str (nomark _)) (mss_cons (ms_set (i := 2) nd rfl (.inl rfl) (mx_call (Em := noX) G__law_short_number hr D__law_short_number.m D__law_short_number.k D__law_short_number.b pass0M (ma_cons (mx_ix (mi_sub hr) (mv 0) mx_int) ma_nil)))
    (mss_one (ms_ret (mx_if (mt_cmp (mo_eqM hr) (mv 2) (mx_tup (ma_cons mx_str (ma_cons mx_int ma_nil))) (nomark _)) (mx_tup (ma_cons mx_str ma_nil)) (mx_op mo_plus (mx_slice (mv 0) mo_none (mo_some mx_int)) (mx_tup (ma_cons (mv 2) ma_nil))))))) mss_nil)
    (mss_cons (ms_set (i := 3) nd rfl (.inl rfl) (mx_call (Em := noX) G__law_short hr D__law_short.m D__law_short.k D__law_short.b pass0M (ma_cons (mx_ix (mi_sub hr) (mv 0) (mx_op mo_sub (mx_callB mc_len1 Z.b_len (ma_cons (mv 0) ma_nil)) mx_int)) ma_nil)))
    (mss_cons (ms_if (mw_pt (mw_or (mt_cmp (mo_eqq hr) (mv 1) mx_str (nomark _)) (mw_or1 (mt_cmp (mo_eqq hr) (mv 1) mx_str (nomark _))))) (mss_cons (ms_set (i := 4) nd rfl (.inl rfl) (mx_call (Em := noX) G__law_short hr D__law_short.m D__law_short.k D__law_short.b pass0M (ma_cons (mx_ix (mi_sub hr) (mv 0) (mx_op mo_sub (mx_callB mc_len1 Z.b_len (ma_cons (mv 0) ma_nil)) mx_int)) ma_nil)))
    (mss_cons (ms_if (mt_cmp (mo_eqq hr) (mv 1) mx_str (nomark _)) (mss_one (ms_ret (mx_call (Em := noX) G__law_short_asked hr D__law_short_asked.m D__law_short_asked.k D__law_short_asked.b pass0M (ma_cons mx_str (ma_cons (mx_ix (mi_sub hr) (mv 0) mx_int) (ma_cons (mv 4) (ma_cons (mv 3) ma_nil))))))) mss_nil)
    (mss_cons (ms_setLc (i := 5) (own := [("_law_one", 6)]) rfl nd rfl rfl (sw_true rfl rfl rfl (by decide +kernel)) (mi_hid (mx_lst (ma_cons (mv 4) (ma_cons (mv 3) ma_nil)))) (blkOk_by (by show blkC ["_law_contract_here", "_law_word_here", "_law_number_here", "_law_last", "_law_first", "_law_rest", "_law_one", "_law_place"] (defScope s__law_short) _ _ = true; decide +kernel)) (fun _ _ _ _ _ => (pg_name (i := 6) nd rfl (Or.inl rfl))) (gok_name (i := 6) (by decide)) (fun _ _ _ _ _ => (mts_one (mt_cmp (mo_neM hr) (mv 6) (mx_tup (ma_cons mx_str ma_nil)) (nomark _)))) (fun _ _ _ _ _ => (mv 6)))
    (mss_one (ms_ret (mx_if (mt_cmp (mo_eqq hr) (mx_callB mc_len1 Z.b_len (ma_cons (mv 5) ma_nil)) mx_int (nomark _)) (mx_tup (ma_cons mx_str (ma_cons (mv 4) (ma_cons (mv 3) ma_nil)))) (mx_ix (mi_sub hr) (mx_op mo_plus (mv 5) (mx_lst (ma_cons (mx_tup (ma_cons mx_str ma_nil)) ma_nil))) mx_int))))))) mss_nil)
    (mss_cons (ms_if (mt_cmp (mo_in hr) (mv 1) (mx_tup (ma_cons mx_str (ma_cons mx_str ma_nil))) rfl) (mss_one (ms_ret (mx_call (Em := noX) G__law_short_asked hr D__law_short_asked.m D__law_short_asked.k D__law_short_asked.b pass0M (ma_cons (mv 1) (ma_cons (mx_ix (mi_sub hr) (mv 0) mx_int) (ma_cons (mv 3) (ma_cons mx_non ma_nil))))))) mss_nil)
    (mss_cons (ms_if (mt_cmp (mo_eqM hr) (mv 3) (mx_tup (ma_cons mx_str ma_nil)) (nomark _)) (mss_one (ms_ret (mv 3))) mss_nil)
    (mss_cons (ms_if (mt_cmp (mo_eqq hr) (mv 1) mx_str (nomark _)) (mss_one (ms_ret (mx_if (mt_cmp (mo_eqq hr) (mx_ix (mi_sub hr) (mv 0) mx_int) mx_int (nomark _)) (mv 3) (mx_op mo_plus (mx_slice (mv 0) mo_none (mo_some mx_int)) (mx_tup (ma_cons (mv 3) ma_nil)))))) mss_nil)
    (mss_cons (ms_if (mt_cmp (mo_eqq hr) (mv 1) mx_str (nomark _)) (mss_cons (ms_if (mw_pt (mw_and (mt_cmp (mo_eqq hr) (mx_ix (mi_sub hr) (mv 3) mx_int) mx_str (nomark _)) (mw_and1 (mt_cmp mo_lt (mx_op mo_plus (mx_ix (mi_sub hr) (mv 0) mx_int) (mx_ix (mi_sub hr) (mv 3) mx_int)) mx_int (nomark _))))) (mss_one (ms_ret (mx_tup (ma_cons mx_str (ma_cons (mx_op mo_plus (mx_ix (mi_sub hr) (mv 0) mx_int) (mx_ix (mi_sub hr) (mv 3) mx_int)) (ma_cons (mx_ix (mi_sub hr) (mv 3) mx_int) ma_nil)))))) mss_nil)
    (mss_one (ms_ret (mx_if (mt_cmp (mo_eqq hr) (mx_ix (mi_sub hr) (mv 0) mx_int) mx_int (nomark _)) (mv 3) (mx_tup (ma_cons mx_str (ma_cons (mx_ix (mi_sub hr) (mv 0) mx_int) (ma_cons (mv 3) ma_nil)))))))) mss_nil)
    (mss_cons (ms_if (mw_pt (mw_and (mt_cmp (mo_eqq hr) (mx_ix (mi_sub hr) (mv 3) mx_int) mx_str (nomark _)) (mw_and1 (mt_cmp (mo_eqq hr) (mx_callB mc_sortedTt Z.b_sorted (ma_cons (mx_slice (mv 3) (mo_some mx_int) (mo_some mx_int)) ma_nil)) (mx_callB mc_sortedTt Z.b_sorted (ma_cons (mx_slice (mv 0) (mo_some mx_int) (mo_some mx_int)) ma_nil)) (nomark _))))) (mss_one (ms_ret (mx_ix (mi_sub hr) (mv 3) mx_int))) mss_nil)
    (mss_cons (ms_if (mt_cmp (mo_eqq hr) (mx_ix (mi_sub hr) (mv 3) mx_int) mx_str (nomark _)) (mss_cons (ms_set (i := 7) nd rfl (.inl rfl) (mx_disp (mps_cons (mx_ix (mi_sub hr) (mv 0) mx_int) (mx_ix (mi_sub hr) (mv 0) mx_int) (mps_cons (mx_ix (mi_sub hr) (mv 0) mx_int) (mx_ix (mi_sub hr) (mv 0) mx_int) mps_nil))))
    (mss_one (ms_ret (mx_tup (ma_cons mx_str (ma_cons (mx_get2 (hu1 hr) (mv 7) (mx_ix (mi_sub hr) (mv 3) mx_int) (mx_ix (mi_sub hr) (mv 3) mx_int)) (ma_cons (mx_get2 (hu1 hr) (mv 7) (mx_ix (mi_sub hr) (mv 3) mx_int) (mx_ix (mi_sub hr) (mv 3) mx_int)) (ma_cons (mx_ix (mi_sub hr) (mv 3) mx_int) (ma_cons (mx_ix (mi_sub hr) (mv 3) mx_int) ma_nil))))))))) mss_nil)
    (mss_one (ms_ret (mx_op mo_plus (mx_slice (mv 0) mo_none (mo_some mx_int)) (mx_tup (ma_cons (mv 3) ma_nil)))))))))))))))), ?_⟩
  cases c with
  | no =>
    simp only [Con.d]; wtm_at "go"
    all_goals exact RtM.mk q
  | give a b g t =>
    simp only [Con.d]; wtm_at "go"
    refine ⟨t, rfl, by have := hg.2.2; omega, Told.of_sm hg.2.1, ?_⟩
    wtm_at "go"
    refine i_eqM (Con.eqM_num hN (Told.sh_of hg.2.1)) ?_
    simp only [Con.sh, Con.top] at q
    wtm_at "go"
    refine i_ite (fun cb => ?_) (fun cb => ?_)
    · rw [if_pos cb] at q
      wtm_at "go"
      all_goals exact RtM.mk q
    · rw [cb, if_neg Bool.false_ne_true] at q
      wtm_at "go"
      refine ⟨sl (by simp [cutL, HT.sIx]), ?_⟩
      all_goals exact RtM.mk q
  | both x y =>
    have gx : x.sh.gd W nms := Con.sh_gd hg.1
    have gy : y.sh.gd W nms := Con.sh_gd hg.2
    have kx : x.rk ≤ 64 := Nat.le_trans (Con.inn_rk (c := .both x y) (by simp [Con.inn])) hk
    have ky : y.rk ≤ 64 := Nat.le_trans (Con.inn_rk (c := .both x y) (by simp [Con.inn])) hk
    have dx : x.dp < n ∧ y.dp < n := by simp only [Con.dp] at hd; omega
    simp only [Con.d]; wtm_at "go"
    refine ⟨y, W, nms, rfl, hW, hN, hg.2, ky, dx.2, ?_⟩
    wtm_at "go"
    refine ⟨x, W, nms, rfl, hW, hN, hg.1, kx, dx.1, ?_⟩
    have q0 : Q (bothOf x.sh y.sh).d m := q
    clear q
    have lx := Con.lay hW hN gx
    have ly := Con.lay hW hN gy
    generalize x.sh = X at q0 lx ⊢
    generalize y.sh = Y at q0 ly ⊢
    wtm_at "go"
    intro p hp
    wtm_at "go"
    refine ⟨_, _, rd_L mput_same, Sub.refl.new hp, .inl hp, ?_⟩
    refine lc_filtD manyD (by show 2 ≤ 1000; decide) trivial (fun _ => rfl) (fun _ => rfl) (fun z hz R hR => ?_) ?_
    · have hz' : ∃ Z : Con, z = Z.d ∧ Z.ly := by
        rcases List.mem_cons.mp hz with rfl | hz
        · exact ⟨X, rfl, lx⟩
        · exact ⟨Y, List.mem_singleton.mp hz, ly⟩
      obtain ⟨Z, rfl, lz⟩ := hz'
      rw [manyD_con] at hR
      wtm_at "go"
      refine i_neM (Con.eqM_no lz) ?_
      exact ⟨_, rfl, hR⟩
    clear hp
    intro p hp
    unfold bothOf at q0
    have fx := manyD_con X
    have fy := manyD_con Y
    cases hx : X.isNo with
    | true =>
      rw [if_pos hx] at q0
      rw [hx] at fx
      cases hy : Y.isNo with
      | true =>
        rw [hy] at fy
        have eL : List.filter manyD [X.d, Y.d] = [] := by simp [List.filter, fx, fy]
        rw [Con.isNo_iff.mp hy] at q0
        rw [eL]
        wtm_at "go"
        intro p2 hp2
        wtm_at "go"
        refine i_plusL (mput_new hp2 mput_same) mput_same (sl (by simp)) ?_
        intro p3 hp3
        wtm_at "go"
        refine i_subL (d := Con.no.d) (rd_L mput_same) (atI_cons (i := 0) rfl) ?_
        exact RtM.sub (((Sub.refl.new hp).new hp2).new hp3) q0
      | false =>
        rw [hy] at fy
        have eL : List.filter manyD [X.d, Y.d] = [Y.d] := by simp [List.filter, fx, fy]
        rw [eL]
        wtm_at "go"
        intro p2 hp2
        wtm_at "go"
        refine i_plusL (mput_new hp2 mput_same) mput_same (sl (by simp)) ?_
        intro p3 hp3
        wtm_at "go"
        refine i_subL (d := Y.d) (rd_L mput_same) (atI_cons (i := 0) rfl) ?_
        exact RtM.sub (((Sub.refl.new hp).new hp2).new hp3) q0
    | false =>
      rw [if_neg (by rw [hx]; exact Bool.false_ne_true)] at q0
      rw [hx] at fx
      cases hy : Y.isNo with
      | true =>
        rw [if_pos hy] at q0
        rw [hy] at fy
        have eL : List.filter manyD [X.d, Y.d] = [X.d] := by simp [List.filter, fx, fy]
        rw [eL]
        wtm_at "go"
        intro p2 hp2
        wtm_at "go"
        refine i_plusL (mput_new hp2 mput_same) mput_same (sl (by simp)) ?_
        intro p3 hp3
        wtm_at "go"
        refine i_subL (d := X.d) (rd_L mput_same) (atI_cons (i := 0) rfl) ?_
        exact RtM.sub (((Sub.refl.new hp).new hp2).new hp3) q0
      | false =>
        rw [if_neg (by rw [hy]; exact Bool.false_ne_true)] at q0
        rw [hy] at fy
        have eL : List.filter manyD [X.d, Y.d] = [X.d, Y.d] := by simp [List.filter, fx, fy]
        rw [eL]
        wtm_at "go"
        all_goals exact RtM.sub (Sub.refl.new hp) q0
  | turned a b x =>
    have gx : x.sh.gd W nms := Con.sh_gd hg.2
    have kx : x.rk ≤ 64 := Nat.le_trans (Con.inn_rk (c := .turned a b x) (by simp [Con.inn])) hk
    have dx : x.dp < n := by simp only [Con.dp] at hd; omega
    simp only [Con.d]; wtm_at "go"
    refine ⟨x, W, nms, rfl, hW, hN, hg.2, kx, dx, ?_⟩
    simp only [Con.sh, Con.top] at q
    have lx := Con.lay hW hN gx
    generalize x.sh = X at q lx gx ⊢
    wtm_at "go"
    refine i_in (in_tup rfl rfl) ?_
    rw [show ([D.str "when", .str "until"].any fun z => eqF z (.str "turned")) = false by simp [eqF, ofString_inj]]
    wtm_at "go"
    refine i_eqM (Con.eqM_no lx) ?_
    wtm_at "go"
    refine i_ite (fun cb => ?_) (fun cb => ?_)
    · rw [if_pos cb] at q
      rw [Con.isNo_iff.mp cb]
      wtm_at "go"
      all_goals exact RtM.mk q
    · rw [cb, if_neg Bool.false_ne_true] at q
      by_cases hw : X.wd = "turned"
      · cases X with
        | turned p q' y =>
          simp only [turnC] at q
          simp only [Con.d]; wtm_at "go"
          refine ⟨[p, q'], rfl, by show 2 < 64; decide, fun ys y0 pm p2 hp2 => ?_⟩
          wtm_at "go"
          refine ⟨[a, b], rfl, by show 2 < 64; decide, fun zs z0 pz p3 hp3 => ?_⟩
          have oy : ∀ x ∈ ys, PyData.strOk x = true := fun x hx => by
            rcases List.mem_cons.mp (pm.mem_iff.mp hx) with rfl | hx
            · exact hW _ gx.1.1
            · rw [List.mem_singleton.mp hx]; exact hW _ gx.1.2.1
          have oz : ∀ x ∈ zs, PyData.strOk x = true := fun x hx => by
            rcases List.mem_cons.mp (pz.mem_iff.mp hx) with rfl | hx
            · exact hW _ hg.1.1
            · rw [List.mem_singleton.mp hx]; exact hW _ hg.1.2.1
          refine ⟨decide (ys = zs), eq_strs (rd_L (mput_new hp3 mput_same)) (rd_L mput_same) oy oz, ?_⟩
          have ec : ys = zs ↔ (p = a ∧ q' = b) ∨ (q' = a ∧ p = b) := by
            rw [← two_perm]
            exact ⟨fun e => pm.symm.trans (e ▸ pz), fun e => srtT_uniq y0 z0 (pm.trans (e.trans pz.symm))⟩
          have sub3 := (Sub.refl.new (o := .lst (ys.map D.str)) hp2).new (o := .lst (zs.map D.str)) hp3
          rw [show decide (ys = zs) = decide ((p = a ∧ q' = b) ∨ (q' = a ∧ p = b)) from decide_eq_decide.mpr ec]
          wtm_at "go"
          refine i_ite (fun c => ?_) (fun c => ?_)
          · rw [if_pos (of_decide_eq_true c)] at q
            wtm_at "go"
            all_goals exact RtM.sub sub3 q
          · rw [if_neg (of_decide_eq_false c)] at q
            wtm_at "go"
            refine ⟨sl (by simp [cutL, HT.sIx]), ?_⟩
            all_goals exact RtM.sub sub3 q
        | _ => simp [Con.wd, ofString_inj] at hw
      · by_cases hw2 : X.wd = "give"
        · cases X with
          | give p q' g t =>
            simp only [turnC] at q
            have nab : a ≠ b := hg.1.2.2
            simp only [Con.d]; wtm_at "go"
            rw [place_merge nab]
            intro p2 hp2
            have hrd2 := rd_K (mput_same (m := m) (a := p2) (o := .dK [(.inr a, .str b), (.inr b, .str a)]))
            wtm_at "go"
            refine ⟨⟨_, hrd2, trivial⟩, ?_⟩
            wtm_at "go"
            refine ⟨_, _, hrd2, ⟨.inr p, rfl, rfl⟩, ?_⟩
            rw [place_get]
            wtm_at "go"
            refine ⟨⟨_, hrd2, trivial⟩, ?_⟩
            wtm_at "go"
            refine ⟨_, _, hrd2, ⟨.inr q', rfl, rfl⟩, ?_⟩
            rw [place_get]
            wtm_at "go"
            all_goals exact RtM.sub (Sub.refl.new hp2) q
          | _ => simp [Con.wd, ofString_inj] at hw2
        · rw [turnC_o hw hw2] at q
          have hd' := X.d_pts
          have q1 : Q (.tup [.str "turned", .str a, .str b, X.d]) m := q
          rw [hd'] at q1 ⊢
          wtm_at "go"
          refine i_iteF (decide_eq_false hw) ?_
          wtm_at "go"
          refine i_iteF (decide_eq_false hw2) ?_
          wtm_at "go"
          refine ⟨sl (by simp [cutL, HT.sIx]), ?_⟩
          all_goals exact RtM.mk q1
  | later u x =>
    have gx : x.sh.gd W nms := Con.sh_gd hg.2
    have kx : x.rk ≤ 64 := Nat.le_trans (Con.inn_rk (c := .later u x) (by simp [Con.inn])) hk
    have dx : x.dp < n := by simp only [Con.dp] at hd; omega
    simp only [Con.d]; wtm_at "go"
    refine ⟨x, W, nms, rfl, hW, hN, hg.2, kx, dx, ?_⟩
    simp only [Con.sh, Con.top] at q
    have lx := Con.lay hW hN gx
    generalize x.sh = X at q lx gx ⊢
    wtm_at "go"
    refine i_in (in_tup rfl rfl) ?_
    rw [show ([D.str "when", .str "until"].any fun z => eqF z (.str "later")) = false by simp [eqF, ofString_inj]]
    wtm_at "go"
    refine i_eqM (Con.eqM_no lx) ?_
    wtm_at "go"
    refine i_ite (fun cb => ?_) (fun cb => ?_)
    · rw [if_pos cb] at q
      rw [Con.isNo_iff.mp cb]
      wtm_at "go"
      all_goals exact RtM.mk q
    · rw [cb, if_neg Bool.false_ne_true] at q
      by_cases hw : X.wd = "later"
      · cases X with
        | later k y =>
          simp only [laterC] at q
          simp only [Con.d]; wtm_at "go"
          refine i_ite (fun c => ?_) (fun c => ?_)
          · have c' : u + k < 100 := of_decide_eq_true c
            rw [if_pos (by omega)] at q
            wtm_at "go"
            all_goals exact RtM.mk q
          · have c' : ¬ u + k < 100 := of_decide_eq_false c
            rw [if_neg (by omega)] at q
            wtm_at "go"
            refine i_ite (fun c => ?_) (fun c => ?_)
            · rw [if_pos (of_decide_eq_true c)] at q
              wtm_at "go"
              all_goals exact RtM.mk q
            · rw [if_neg (of_decide_eq_false c)] at q
              wtm_at "go"
              all_goals exact RtM.mk q
        | _ => simp [Con.wd, ofString_inj] at hw
      · rw [laterC_o hw] at q
        have hd' := X.d_pts
        have q1 : u = 0 → Q X.d m := fun e => by rw [if_pos e] at q; exact q
        have q2 : ¬ u = 0 → Q (.tup [.str "later", .int u, X.d]) m := fun e => by rw [if_neg e] at q; exact q
        rw [hd'] at q1 q2 ⊢
        wtm_at "go"
        refine i_iteF (decide_eq_false hw) ?_
        wtm_at "go"
        refine i_ite (fun c => ?_) (fun c => ?_)
        · have := q1 (of_decide_eq_true c)
          wtm_at "go"
          all_goals exact RtM.mk this
        · have := q2 (of_decide_eq_false c)
          wtm_at "go"
          all_goals exact RtM.mk this
  | often u v x =>
    have gx : x.sh.gd W nms := Con.sh_gd hg.2
    have kx : x.rk ≤ 64 := Nat.le_trans (Con.inn_rk (c := .often u v x) (by simp [Con.inn])) hk
    have dx : x.dp < n := by simp only [Con.dp] at hd; omega
    simp only [Con.d]; wtm_at "go"
    refine ⟨x, W, nms, rfl, hW, hN, hg.2, kx, dx, ?_⟩
    simp only [Con.sh, Con.top] at q
    have lx := Con.lay hW hN gx
    generalize x.sh = X at q lx ⊢
    wtm_at "go"
    refine i_in (in_tup rfl rfl) ?_
    rw [show ([D.str "when", .str "until"].any fun z => eqF z (.str "often")) = false by simp [eqF, ofString_inj]]
    wtm_at "go"
    refine i_eqM (Con.eqM_no lx) ?_
    wtm_at "go"
    refine i_ite (fun cb => ?_) (fun cb => ?_)
    · rw [if_pos cb] at q
      rw [Con.isNo_iff.mp cb]
      wtm_at "go"
      all_goals exact RtM.mk q
    · rw [cb, if_neg Bool.false_ne_true] at q
      wtm_at "go"
      refine i_ite (fun c1 => ?_) (fun c1 => ?_)
      · rw [if_pos (of_decide_eq_true c1)] at q
        wtm_at "go"
        all_goals exact RtM.mk q
      · rw [if_neg (of_decide_eq_false c1)] at q
        wtm_at "go"
        refine ⟨sl (by simp [cutL, HT.sIx]), ?_⟩
        all_goals exact RtM.mk q
  | ite c x y =>
    have gx : x.sh.gd W nms := Con.sh_gd hg.2.1
    have gy : y.sh.gd W nms := Con.sh_gd hg.2.2
    have kx : x.rk ≤ 64 := Nat.le_trans (Con.inn_rk (c := .ite c x y) (by simp [Con.inn])) hk
    have ky : y.rk ≤ 64 := Nat.le_trans (Con.inn_rk (c := .ite c x y) (by simp [Con.inn])) hk
    have dx : x.dp < n ∧ y.dp < n := by simp only [Con.dp] at hd; omega
    have hd1 := Con.pd_depth x.sh
    have hk1 := Con.sh_rk x
    simp only [Con.d]; wtm_at "go"
    refine ⟨y, W, nms, rfl, hW, hN, hg.2.2, ky, dx.2, ?_⟩
    wtm_at "go"
    refine ⟨x, W, nms, rfl, hW, hN, hg.2.1, kx, dx.1, ?_⟩
    have kk : x.rk + 1 ≤ 64 := by simp only [Con.rk] at hk; omega
    wtm_at "go"
    exact ⟨c, x.sh, ⟨by have := hg.1.2; omega, by have := hg.1.2; omega, Asked.of_sm hg.1.1⟩, Con.lay hW hN gx, .inl ⟨y.sh, rfl, Con.lay hW hN gy, by omega, RtM.mk q⟩⟩
  | when c x =>
    have gx : x.sh.gd W nms := Con.sh_gd hg.2
    have kx : x.rk ≤ 64 := Nat.le_trans (Con.inn_rk (c := .when c x) (by simp [Con.inn])) hk
    have dx : x.dp < n := by simp only [Con.dp] at hd; omega
    simp only [Con.d]; wtm_at "go"
    refine ⟨x, W, nms, rfl, hW, hN, hg.2, kx, dx, ?_⟩
    wtm_at "go"
    refine i_in (in_tup rfl rfl) ?_
    rw [show ([D.str "when", .str "until"].any fun z => eqF z (.str "when")) = true by simp [eqF, ofString_inj]]
    wtm_at "go"
    exact ⟨c, x.sh, ⟨by have := hg.1.2; omega, by have := hg.1.2; omega, Asked.of_sm hg.1.1⟩, Con.lay hW hN gx, .inr (.inl ⟨rfl, RtM.mk q⟩)⟩
  | till c x =>
    have gx : x.sh.gd W nms := Con.sh_gd hg.2
    have kx : x.rk ≤ 64 := Nat.le_trans (Con.inn_rk (c := .till c x) (by simp [Con.inn])) hk
    have dx : x.dp < n := by simp only [Con.dp] at hd; omega
    simp only [Con.d]; wtm_at "go"
    refine ⟨x, W, nms, rfl, hW, hN, hg.2, kx, dx, ?_⟩
    wtm_at "go"
    refine i_in (in_tup rfl rfl) ?_
    rw [show ([D.str "when", .str "until"].any fun z => eqF z (.str "until")) = true by simp [eqF, ofString_inj]]
    wtm_at "go"
    exact ⟨c, x.sh, ⟨by have := hg.1.2; omega, by have := hg.1.2; omega, Asked.of_sm hg.1.1⟩, Con.lay hW hN gx, .inr (.inr ⟨rfl, RtM.mk q⟩)⟩
theorem fin_law_short {c : Nat} (Z : Bl mg) {f__law_short_number : Addr} {fd__law_short_number : FuncData} (D__law_short_number : Df K mg "_law_short_number" f__law_short_number fd__law_short_number ["_law_told_here"]) (G__law_short_number : FnM P w K mg base CX0 (c) f__law_short_number fd__law_short_number ["_law_told_here"] (spShN 20)) {f__law_short_asked : Addr} {fd__law_short_asked : FuncData} (D__law_short_asked : Df K mg "_law_short_asked" f__law_short_asked fd__law_short_asked ["_law_word_here", "_law_asked_here", "_law_inner", "_law_other"]) (G__law_short_asked : FnM P w K mg base CX0 (c) f__law_short_asked fd__law_short_asked ["_law_word_here", "_law_asked_here", "_law_inner", "_law_other"] (spShAsk)) {f__law_short : Addr} {fd__law_short : FuncData} (D__law_short : Df K mg "_law_short" f__law_short fd__law_short ["_law_contract_here"]) (F : Fun K "_law_short" "_law_short" s__law_short f__law_short fd__law_short) : ∀ n, FnM P w K mg base CX0 (c + n) f__law_short fd__law_short ["_law_contract_here"] (spShorter n)
  | 0 => fn_none fun ds m Q E ⟨_, _, _, _, _, _, _, _, h, _⟩ => by omega
  | n + 1 => ok_law_short Z D__law_short_number (G__law_short_number.mono (Nat.le_add_right c n)) D__law_short_asked (G__law_short_asked.mono (Nat.le_add_right c n)) D__law_short (fin_law_short Z D__law_short_number G__law_short_number D__law_short_asked G__law_short_asked D__law_short F n) F

theorem Con.ht_rk : ∀ c : Con, c.ht ≤ c.rk
  | .no => Nat.le_refl _
  | .give _ _ _ _ => by simp only [Con.ht, Con.rk]; omega
  | .both x y => by have := Con.ht_rk x; have := Con.ht_rk y; simp only [Con.ht, Con.rk]; omega
  | .turned _ _ x => by have := Con.ht_rk x; simp only [Con.ht, Con.rk]; omega
  | .later h (.often n k x) => by have := Con.ht_rk x; simp only [Con.ht, Con.rk]; omega
  | .later h .no => by simp only [Con.ht, Con.rk]; omega
  | .later h (.give a b g t) => by simp only [Con.ht, Con.rk]; omega
  | .later h (.both x y) => by have := Con.ht_rk (.both x y); simp only [Con.ht, Con.rk] at this ⊢; omega
  | .later h (.turned a b x) => by have := Con.ht_rk (.turned a b x); simp only [Con.ht, Con.rk] at this ⊢; omega
  | .later h (.later u x) => by have := Con.ht_rk (.later u x); show (Con.later u x).ht + 1 ≤ (Con.later u x).rk + 1; omega
  | .later h (.ite q x y) => by have := Con.ht_rk (.ite q x y); show (Con.ite q x y).ht + 1 ≤ (Con.ite q x y).rk + 1; omega
  | .later h (.when q x) => by have := Con.ht_rk (.when q x); show (Con.when q x).ht + 1 ≤ (Con.when q x).rk + 1; omega
  | .later h (.till q x) => by have := Con.ht_rk (.till q x); show (Con.till q x).ht + 1 ≤ (Con.till q x).rk + 1; omega
  | .often n k x => by have := Con.ht_rk x; simp only [Con.ht, Con.rk]; omega
  | .ite q x y => by have := Con.ht_rk x; have := Con.ht_rk y; simp only [Con.ht, Con.rk]; omega
  | .when q x => by have := Con.ht_rk x; simp only [Con.ht, Con.rk]; omega
  | .till q x => by have := Con.ht_rk x; simp only [Con.ht, Con.rk]; omega

theorem Told.of_mono {l k : List Str} (h : ∀ x ∈ l, x ∈ k) : ∀ {t : Told}, t.of l → t.of k
  | .num _, z => z
  | .read x, z => h x z
  | .bin _ _ _, z => ⟨Told.of_mono h z.1, Told.of_mono h z.2⟩
theorem Asked.of_mono {l k : List Str} (h : ∀ x ∈ l, x ∈ k) : ∀ {t : Asked}, t.of l → t.of k
  | .lt _ _, z => ⟨Told.of_mono h z.1, Told.of_mono h z.2⟩
  | .no a, z => Asked.of_mono h (t := a) z
  | .all _ _, z => ⟨Asked.of_mono h z.1, Asked.of_mono h z.2⟩
  | .any _ _, z => ⟨Asked.of_mono h z.1, Asked.of_mono h z.2⟩
theorem Con.gd_mono {W V l k : List Str} (h : ∀ x ∈ W, x ∈ V) (h2 : ∀ x ∈ l, x ∈ k) : ∀ {c : Con}, c.gd W l → c.gd V k
  | .no, _ => trivial
  | .give _ _ _ _, z => ⟨⟨h _ z.1.1, h _ z.1.2.1, h _ z.1.2.2.1, z.1.2.2.2⟩, Told.of_mono h2 z.2.1, z.2.2⟩
  | .both _ _, z => ⟨Con.gd_mono h h2 z.1, Con.gd_mono h h2 z.2⟩
  | .turned _ _ _, z => ⟨⟨h _ z.1.1, h _ z.1.2.1, z.1.2.2⟩, Con.gd_mono h h2 z.2⟩
  | .later _ _, z => ⟨z.1, Con.gd_mono h h2 z.2⟩
  | .often _ _ _, z => ⟨z.1, Con.gd_mono h h2 z.2⟩
  | .ite _ _ _, z => ⟨⟨Asked.of_mono h2 z.1.1, z.1.2⟩, Con.gd_mono h h2 z.2.1, Con.gd_mono h h2 z.2.2⟩
  | .when _ _, z => ⟨⟨Asked.of_mono h2 z.1.1, z.1.2⟩, Con.gd_mono h h2 z.2⟩
  | .till _ _, z => ⟨⟨Asked.of_mono h2 z.1.1, z.1.2⟩, Con.gd_mono h h2 z.2⟩
/-- good enough to be told shorter -/
structure G19 (W nms : List Str) (c : Con) : Prop where
  g : c.gd W nms
  k : c.rk ≤ 59
  d : c.dp < 20
def abcW (s : Dr) : List Str := "a" :: "b" :: "c" :: wordsOf s
theorem abcW_ok {s : Dr} (B : DrB s) : WOk (abcW s) := fun x hx => by
  rcases List.mem_cons.mp hx with rfl | hx
  · decide +kernel
  rcases List.mem_cons.mp hx with rfl | hx
  · decide +kernel
  rcases List.mem_cons.mp hx with rfl | hx
  · decide +kernel
  · exact wordsOf_ok B x hx
theorem abcW_in {s : Dr} : ∀ x ∈ wordsOf s, x ∈ abcW s := fun x hx => List.mem_cons_of_mem _ (List.mem_cons_of_mem _ (List.mem_cons_of_mem _ hx))
theorem G19.give {s : Dr} {nms : List Str} {t : Told} (h : t.of nms) (d : t.dp ≤ 12) : G19 (abcW s) nms (.give "a" "b" "c" t) :=
  ⟨⟨⟨by simp [abcW], by simp [abcW], by simp [abcW], by simp [ofString_inj]⟩, h, d⟩, by simp only [Con.rk]; omega, by simp only [Con.dp]; omega⟩
theorem i_once {ds ex : List D} {k : Int} {m : Mem} {Q : KM} (ne : ds ≠ []) (h : (k = 1 ∧ ex = ds) ∨ (k = 0 ∧ ex = [])) (q : Q (.tup ex) m) : wOnce (.tup ds) (.int k) m Q :=
  ⟨ne, h.elim (fun z => .inl ⟨z.1, z.2 ▸ q⟩) (fun z => .inr ⟨z.1, z.2 ▸ q⟩)⟩
abbrev s_law : Stmt := topS 39
theorem sc_law : FnScope ["_law_script", "_law_s", "_law_drawn_here", "_law_contract_here", "_law_more", "_law_unsure", "_law_firm", "_law_pair", "_law_some", "_law_great", "_law_one"] ["_law_script"] (defScope s_law) := ⟨rfl, rfl, rfl, by decide +kernel, rfl, by decide +kernel, by decide +kernel⟩
theorem ok_law {k : Nat} (V : Gv K mg) (Z : Bl mg) {f__law_begun : Addr} {fd__law_begun : FuncData} (D__law_begun : Df K mg "_law_begun" f__law_begun fd__law_begun ["_law_script"]) (G__law_begun : FnM P w K mg base CX0 (k) f__law_begun fd__law_begun ["_law_script"] (spBegun K)) {f__law_taken : Addr} {fd__law_taken : FuncData} (D__law_taken : Df K mg "_law_taken" f__law_taken fd__law_taken ["_law_s", "_law_most"]) (G__law_taken : FnM P w K mg base CX0 (k) f__law_taken fd__law_taken ["_law_s", "_law_most"] (spTaken K)) {f__law_drawn : Addr} {fd__law_drawn : FuncData} (D__law_drawn : Df K mg "_law_drawn" f__law_drawn fd__law_drawn ["_law_s", "_law_many"]) (G__law_drawn : FnM P w K mg base CX0 (k) f__law_drawn fd__law_drawn ["_law_s", "_law_many"] (spDrawn K)) {f__law_dressed : Addr} {fd__law_dressed : FuncData} (D__law_dressed : Df K mg "_law_dressed" f__law_dressed fd__law_dressed ["_law_s", "_law_contract_here", "_law_deep"]) (G__law_dressed : FnM P w K mg base CX0 (k) f__law_dressed fd__law_dressed ["_law_s", "_law_contract_here", "_law_deep"] (spDressed K 2)) {f__law_asked : Addr} {fd__law_asked : FuncData} (D__law_asked : Df K mg "_law_asked" f__law_asked fd__law_asked ["_law_s", "_law_deep"]) (G__law_asked : FnM P w K mg base CX0 (k) f__law_asked fd__law_asked ["_law_s", "_law_deep"] (spAsked K 3)) {f__law_told : Addr} {fd__law_told : FuncData} (D__law_told : Df K mg "_law_told" f__law_told fd__law_told ["_law_s", "_law_deep"]) (G__law_told : FnM P w K mg base CX0 (k) f__law_told fd__law_told ["_law_s", "_law_deep"] (spTold K 4)) {f__law_contract : Addr} {fd__law_contract : FuncData} (D__law_contract : Df K mg "_law_contract" f__law_contract fd__law_contract ["_law_s", "_law_deep"]) (G__law_contract : FnM P w K mg base CX0 (k) f__law_contract fd__law_contract ["_law_s", "_law_deep"] (spCon K 3)) {f_shorter : Addr} {fd_shorter : FuncData} (D_shorter : Df K mg "shorter" f_shorter fd_shorter ["contract"]) (G_shorter : FnM P w K mg base CX0 (k) f_shorter fd_shorter ["contract"] (spShorter 20)) {f__law_short : Addr} {fd__law_short : FuncData} (D__law_short : Df K mg "_law_short" f__law_short fd__law_short ["_law_contract_here"]) (G__law_short : FnM P w K mg base CX0 (k) f__law_short fd__law_short ["_law_contract_here"] (spShorter 20)) {f__law_alike : Addr} {fd__law_alike : FuncData} (D__law_alike : Df K mg "_law_alike" f__law_alike fd__law_alike ["_law_found", "_law_due"]) (G__law_alike : FnM P w K mg base CX0 (k) f__law_alike fd__law_alike ["_law_found", "_law_due"] (spAl 60)) {f_law : Addr} {fd_law : FuncData} (F : Fun K "law" "law" s_law f_law fd_law) : FnM P w K mg base CX0 (k + 1) f_law fd_law ["_law_script"] (spLaw K) := by
  refine fn_m F sc_law (fun ds m Q E h => ?_) (fun cdv A outer s H ds m Q E E' hr h => ?_)
  · obtain ⟨c, ns, rfl, _⟩ := h; rfl
  have nd := sc_law.nd
  obtain ⟨c, ns, rfl, hL, hl, q⟩ := h
  refine ⟨_, (mss_cons (ms_set (i := 1) nd rfl (.inl rfl) (mx_call (Em := noX) G__law_begun hr D__law_begun.m D__law_begun.k D__law_begun.b pass0M (ma_cons (mv 0) ma_nil)))
    (mss_cons (ms_set (i := 2) nd rfl (.inl rfl) (mx_call (Em := noX) G__law_drawn hr D__law_drawn.m D__law_drawn.k D__law_drawn.b pass0M (ma_cons (mv 1) (ma_cons (mx_call (Em := noX) G__law_taken hr D__law_taken.m D__law_taken.k D__law_taken.b pass0M (ma_cons (mv 1) (ma_cons mx_int ma_nil))) ma_nil))))
    (mss_cons (ms_set (i := 3) nd rfl (.inl rfl) (mx_call (Em := noX) G__law_dressed hr D__law_dressed.m D__law_dressed.k D__law_dressed.b pass0M (ma_cons (mv 1) (ma_cons (mv 2) (ma_cons mx_int ma_nil)))))
    (mss_cons (ms_dput (hu1 hr) (mv 1) mx_str (mx_slice (mx_ix (mi_sub hr) (mv 1) mx_str) mo_none (mo_some (mx_call (Em := noX) G__law_taken hr D__law_taken.m D__law_taken.k D__law_taken.b pass0M (ma_cons (mv 1) (ma_cons mx_int ma_nil))))))
    (mss_cons (ms_set (i := 4) nd rfl (.inl rfl) (mx_tup (ma_cons (mx_ix (mi_sub hr) (mx_lst (ma_cons mx_str (ma_cons mx_str (ma_cons mx_str ma_nil)))) (mx_call (Em := noX) G__law_taken hr D__law_taken.m D__law_taken.k D__law_taken.b pass0M (ma_cons (mv 1) (ma_cons mx_int ma_nil)))) (ma_cons (mx_call (Em := noX) G__law_asked hr D__law_asked.m D__law_asked.k D__law_asked.b pass0M (ma_cons (mv 1) (ma_cons mx_int ma_nil))) (ma_cons (mv 2) ma_nil)))))
    (mss_cons (ms_if (mt_cmp (mo_eqq hr) (mx_ix (mi_sub hr) (mv 4) mx_int) mx_str (nomark _)) (mss_one (ms_set (i := 4) nd rfl (.inl rfl) (mx_op mo_plus (mv 4) (mx_tup (ma_cons (mx_call (Em := noX) G__law_contract hr D__law_contract.m D__law_contract.k D__law_contract.b pass0M (ma_cons (mv 1) (ma_cons mx_int ma_nil))) ma_nil))))) mss_nil)
    (mss_cons (ms_par (i := 5) (j := 6) rfl nd rfl rfl (by decide) rfl rfl (ma_cons (mx_call (Em := noX) G__law_asked hr D__law_asked.m D__law_asked.k D__law_asked.b pass0M (ma_cons (mv 1) (ma_cons mx_int ma_nil))) (ma_cons (mx_tup (ma_cons mx_str (ma_cons (mx_tup (ma_cons mx_str (ma_cons (mx_call (Em := noX) G__law_taken hr D__law_taken.m D__law_taken.k D__law_taken.b pass0M (ma_cons (mv 1) (ma_cons mx_int ma_nil))) ma_nil))) (ma_cons (mx_tup (ma_cons mx_str (ma_cons mx_int ma_nil))) ma_nil)))) ma_nil)) rfl)
    (mss_cons (ms_set (i := 7) nd rfl (.inl rfl) (mx_ix (mi_sub hr) (mx_lst (ma_cons (mx_tup (ma_cons (mv 5) (ma_cons (mv 6) ma_nil))) (ma_cons (mx_tup (ma_cons (mv 6) (ma_cons (mv 5) ma_nil))) ma_nil))) (mx_call (Em := noX) G__law_taken hr D__law_taken.m D__law_taken.k D__law_taken.b pass0M (ma_cons (mv 1) (ma_cons mx_int ma_nil)))))
    (mss_cons (ms_set (i := 8) nd rfl (.inl rfl) (mx_lst (ma_cons (mv 3) (ma_cons (mv 4) (ma_cons (mx_tup (ma_cons mx_str (ma_cons mx_str (ma_cons mx_str (ma_cons mx_str (ma_cons (mx_call (Em := noX) G__law_told hr D__law_told.m D__law_told.k D__law_told.b pass0M (ma_cons (mv 1) (ma_cons mx_int ma_nil))) ma_nil)))))) (ma_cons (mx_tup (ma_cons mx_str (ma_cons (mv 5) (ma_cons (mv 3) (ma_cons (mv 3) ma_nil))))) ma_nil))))))
    (mss_cons (ms_expr (mx_append (mv 8) (mx_tup (ma_cons (mx_ix (mi_sub hr) (mx_lst (ma_cons mx_str (ma_cons mx_str ma_nil))) (mx_call (Em := noX) G__law_taken hr D__law_taken.m D__law_taken.k D__law_taken.b pass0M (ma_cons (mv 1) (ma_cons mx_int ma_nil)))) (ma_cons (mx_op mo_plus (mx_tup (ma_cons (mx_ix (mi_sub hr) (mx_lst (ma_cons mx_str (ma_cons mx_str ma_nil))) (mx_call (Em := noX) G__law_taken hr D__law_taken.m D__law_taken.k D__law_taken.b pass0M (ma_cons (mv 1) (ma_cons mx_int ma_nil)))) ma_nil)) (mv 7)) (ma_cons (mv 2) ma_nil))))))
    (mss_cons (ms_asg (mx_op mo_plus (mx_ix (mi_sub hr) (mv 8) mx_int) (mx_op mo_once (mx_tup (ma_cons (mx_tup (ma_cons mx_str ma_nil)) ma_nil)) (mx_callTy mc_int1 Z.b_int (ma_cons (mx_cmp (mo_eqq hr) (mx_ix (mi_sub hr) (mx_ix (mi_sub hr) (mv 8) mx_int) mx_int) mx_str (nomark _)) ma_nil)))) (mg_lput (mv 8) mx_int))
    (mss_cons (ms_set (i := 9) nd rfl (.inl rfl) (mx_lst (ma_cons (mx_tup (ma_cons mx_str (ma_cons (mx_op mo_sub (mx_op mo_pow mx_int mx_int) mx_int) ma_nil))) (ma_cons (mx_tup (ma_cons mx_str (ma_cons (mx_call (Em := noX) G__law_taken hr D__law_taken.m D__law_taken.k D__law_taken.b pass0M (ma_cons (mv 1) (ma_cons mx_int ma_nil))) ma_nil))) ma_nil))))
    (mss_cons (ms_expr (mx_append (mv 8) (mx_tup (ma_cons mx_str (ma_cons mx_str (ma_cons mx_str (ma_cons mx_str (ma_cons (mx_tup (ma_cons mx_str (ma_cons (mx_ix (mi_sub hr) (mv 9) mx_int) (ma_cons (mx_ix (mi_sub hr) (mv 9) mx_int) ma_nil)))) ma_nil))))))))
    (mss_cons (ms_expr (mx_append (mv 8) (mx_tup (ma_cons mx_str (ma_cons mx_str (ma_cons mx_str (ma_cons mx_str (ma_cons (mx_tup (ma_cons mx_str (ma_cons (mx_tup (ma_cons mx_str (ma_cons (mx_op mo_sub mx_int (mx_op mo_pow mx_int mx_int)) ma_nil))) (ma_cons (mx_ix (mi_sub hr) (mv 9) mx_int) ma_nil)))) ma_nil))))))))
    (mss_cons (ms_for PassesOwn.never rfl (mi_list (mv 8)) (mg_name (i := 10) nd rfl (.inl rfl)) (mss_one (ms_if (mt_not (mt_val (mx_call (Em := noX) G__law_alike hr D__law_alike.m D__law_alike.k D__law_alike.b pass0M (ma_cons (mx_call (Em := noX) G_shorter hr D_shorter.m D_shorter.k D_shorter.b pass0M (ma_cons (mv 10) ma_nil)) (ma_cons (mx_call (Em := noX) G__law_short hr D__law_short.m D__law_short.k D__law_short.b pass0M (ma_cons (mv 10) ma_nil)) ma_nil))))) (mss_one (ms_ret mx_bl)) mss_nil)))
    (mss_one (ms_ret mx_bl))))))))))))))))), ?_⟩
  wtm_at "go"
  refine ⟨c, ns, rfl, hL, hl, fun a s m1 ea ha S1 I B N0 nea => ?_⟩
  wtm_at "go"
  refine spTaken.mk I (by decide) (by decide) fun w s1 w0 w1 n1 I1 => ?_
  wtm_at "go"
  have B1 := B.nx n1
  refine spDrawn.mk w0 (by omega) I1 B1 fun c1 s2 m2 hx hd sw I2 N2 kp => ?_
  have B2 := B1.sw sw
  have w2 : wordOf s2 = wordOf s1 := wordOf_sw sw
  have ww2 : wordsOf s2 = wordsOf s1 := by unfold wordsOf; rw [w2]
  have hcI0 := Con.of_I B1 hx
  have hnw := namesOf_wd (n := w.toNat) B1
  have fit := Con.of_fit B1 hnw hx hd
  have hck := fit.r
  have hcd := hd.dp
  rw [← ww2] at fit
  wtm_at "go"
  refine ⟨a, c1, 1, 41, 7, 5, s2, _, rfl, by omega, by omega, fit, hnw, I2, N2, B2, fun y s3 fy n3 I3 => ?_⟩
  rw [ww2] at fy
  have N3 := N2.put I2 n3
  have B3 := B2.nx n3
  have w3 : wordOf s3 = wordOf s1 := (wordOf_nx n3).trans w2
  generalize hnm : namesOf s1 w.toNat = nms at N3 fy hx
  have hN : WOk nms := by rw [← hnm]; exact namesOf_ok B1
  have hW : WOk (abcW s1) := abcW_ok B1
  have G0 : G19 (abcW s1) nms c1 := ⟨Con.gd_mono abcW_in (fun _ h => h) (Con.of_gd B1 hx), by omega, by omega⟩
  have G1 : G19 (abcW s1) nms y := ⟨Con.gd_mono abcW_in (fun _ h => h) fy.g, by have := fy.r; omega, by have := fy.d; omega⟩
  have rk1 := fy.r
  have dp1 := fy.d
  generalize mput m2 a s3.o = M3 at I3 N3 ⊢
  clear I2 N2 kp fit fy
  have I3r := I3.rd
  have I3e := I3.e
  have N3l := N3.1
  wtm_at "go"
  refine spTaken.mk I3 (by decide) (by decide) fun u s4 u0 u1 n4 I4 => ?_
  have N4 := N3.put I3 n4
  have N4l : rdM (mput M3 a s4.o) s3.nm = some (.lst (nms.map .str)) := by rw [← n4.2.1]; exact N4.1
  generalize mput M3 a s4.o = M4 at I4 N4 N4l ⊢
  have n34 := Dr.nx_trans n3 n4
  wtm_at "go"
  rw [cutL_map]
  generalize hks : cutL nms none (some u) = ks
  have hkn : ∀ x ∈ ks, x ∈ nms := fun x hx => by
    rw [← hks] at hx
    unfold cutL at hx
    exact List.mem_of_mem_drop (List.mem_of_mem_take hx)
  have hkl : ks.length ≤ 20 := by
    have := N4.2
    rw [← hks]
    unfold cutL
    rw [List.length_take, List.length_drop]; omega
  intro p hp
  wtm_at "go"
  refine i_putK (mput_new hp I4.e) Dr.len ?_
  rw [Dr.p_names]
  have nap : p ≠ a := fun z => by rw [z, I4.e] at hp; cases hp
  have I5 := (I4.new (o := .lst (ks.map D.str)) hp).put (s' := { s4 with nm := p }) rfl I4.at0 I4.rest0 I4.mix0 I4.mix1
  have N5 : DrN (mput (mput M4 p (.lst (ks.map D.str))) a (Dr.o { s4 with nm := p })) { s4 with nm := p } ks := ⟨rd_L (by rw [mput_ne nap, mput_same]), hkl⟩
  have w4 : wordOf s4 = wordOf s1 := (wordOf_nx n34).trans w2
  have w5 : wordOf { s4 with nm := p } = wordOf s1 := w4
  have B4 := B2.nx n34
  have B5 : DrB { s4 with nm := p } := ⟨B4.z0, B4.z1, B4.p0, B4.p1, B4.t0, B4.t1, B4.k⟩
  generalize ({ s4 with nm := p } : Dr) = s5 at I5 N5 w5 B5 ⊢
  generalize mput (mput M4 p (.lst (ks.map D.str))) a s5.o = M5 at I5 N5 ⊢
  clear I4 N4 I3 N3 hp nap B4 w4 N3l N4l I3r I3e
  have S5 := DrS.start I5 N5
  wtm_at "go"
  intro p1 hp1
  have S5a := S5.new (o := .lst [.str (Str.ofString "if"), .str (Str.ofString "when"), .str (Str.ofString "until")]) hp1
  have np1 : p1 ≠ a := fun z => by rw [z, I5.e] at hp1; cases hp1
  wtm_at "go"
  refine spTaken.mkS S5a (by decide) (by decide) fun r3 s6 r0 r1 n6 S6 => ?_
  wtm_at "go"
  obtain ⟨wd, hj, hwd⟩ : ∃ wd : Str, atI [D.str (Str.ofString "if"), .str (Str.ofString "when"), .str (Str.ofString "until")] r3 = some (.str wd) ∧
      (wd = "if" ∨ (wd ≠ "if" ∧ ∃ mk : Asked → Con → Con, (∀ q x, (mk q x).d = .tup [.str wd, q.d, x.d]) ∧ ∀ (q : Asked) (x : Con), (q.of nms ∧ q.dp ≤ 2 ∧ q.td ≤ 1) → G19 (abcW s1) nms x → x.rk ≤ 58 → x.dp < 19 → G19 (abcW s1) nms (mk q x))) := by
    have : r3 = 0 ∨ r3 = 1 ∨ r3 = 2 := by omega
    rcases this with rfl | rfl | rfl
    · exact ⟨"if", rfl, .inl rfl⟩
    · exact ⟨"when", rfl, .inr ⟨by simp [ofString_inj], .when, fun _ _ => rfl, fun q x h g k d => ⟨⟨⟨h.1, by have := h.2; omega, by have := h.2; omega⟩, g.g⟩, by simp only [Con.rk]; omega, by simp only [Con.dp]; omega⟩⟩⟩
    · exact ⟨"until", rfl, .inr ⟨by simp [ofString_inj], .till, fun _ _ => rfl, fun q x h g k d => ⟨⟨⟨h.1, by have := h.2; omega, by have := h.2; omega⟩, g.g⟩, by simp only [Con.rk]; omega, by simp only [Con.dp]; omega⟩⟩⟩
  refine i_subL (rd_L (by rw [mput_ne np1]; exact mput_same)) hj ?_
  wtm_at "go"
  refine spAsked.mkS (dp := 2) S6 rfl (by omega) fun q1 s7 qd qt qo n7 S7 => ?_
  have qo' := Asked.of_mono hkn qo
  wtm_at "go"
  have n57 := Dr.nx_trans n6 n7
  have w7 : wordOf s7 = wordOf s1 := (wordOf_nx n57).trans w5
  have B7 := B5.nx n57
  refine i_iteM (fun ρ' M' => ∃ (mo : Con) (s' : Dr), ρ' = [some (.ref c), some (.ref a), some c1.d, some y.d, some mo.d, none, none, none, none, none, none] ∧ G19 (abcW s1) nms mo ∧ s5.nx s' ∧ DrS K M5 a ks s' M') (fun cb hk => ?_) (fun cb hk => ?_) ?_
  · have hif : wd = "if" := of_decide_eq_true cb
    refine i_setO hk (fun N hN => ?_)
    clear hk
    wtm_at "go"
    refine spCon.mkS (dp := 2) S7 B7 rfl (by omega) fun x s8 hx8 dx n8 S8 => ?_
    have gx : x.gd (wordsOf s1) ks := by
      have := Con.of_gd B7 hx8
      rw [show wordsOf s7 = wordsOf s1 by unfold wordsOf; rw [w7]] at this
      exact this
    have kx := Con.of_rk hx8
    wtm_at "go"
    subst hif
    refine hN _ _ ⟨.ite q1 c1 x, s8, rfl, ⟨⟨⟨qo', by omega, by omega⟩, G0.g, Con.gd_mono abcW_in hkn gx⟩, by simp only [Con.rk]; omega, by simp only [Con.dp]; omega⟩, Dr.nx_trans n57 n8, S8⟩
  · have hif : ¬ wd = "if" := of_decide_eq_false cb
    obtain ⟨_, mk, e1, e2⟩ := hwd.resolve_left hif
    exact hk _ _ ⟨mk q1 c1, s7, by rw [e1]; rfl, e2 _ _ ⟨qo', qd, qt⟩ G0 (by omega) (by omega), n57, S7⟩
  rintro ρ' M' ⟨mo, s8, rfl, Gm, n58, S8⟩
  clear S7 S6 S5a S5 hj hwd n57 B7 w7 qo qo' qd qt n6 n7
  have w8 : wordOf s8 = wordOf s1 := (wordOf_nx n58).trans w5
  have B8 := B5.nx n58
  wtm_at "go"
  refine spAsked.mkS (dp := 1) S8 rfl (by omega) fun qa s9 qd qt qo n9 S9 => ?_
  have qo' := Asked.of_mono hkn qo
  wtm_at "go"
  refine spTaken.mkS S9 (by decide) (by decide) fun f3 s10 f0 f1 n10 S10 => ?_
  wtm_at "go"
  intro p2 hp2
  have n810 := Dr.nx_trans n9 n10
  have np2 : p2 ≠ a := fun z => by rw [z, S10.e] at hp2; cases hp2
  obtain ⟨qf, hqf⟩ : ∃ qf : Asked, qf = .lt (.num f3) (.num 1) := ⟨_, rfl⟩
  have eqf : D.tup [.str (Str.ofString "below"), .tup [.str (Str.ofString "num"), .int f3], .tup [.str (Str.ofString "num"), .int 1]] = qf.d := by rw [hqf]; rfl
  have gqf : qf.of nms ∧ qf.dp ≤ 1 ∧ qf.td ≤ 1 := by
    rw [hqf]
    exact ⟨⟨by show f3.natAbs < 10 ^ 12; omega, by show (1 : Int).natAbs < 10 ^ 12; decide⟩, Nat.zero_le _, Nat.zero_le _⟩
  have gqa : qa.of nms ∧ qa.dp ≤ 1 ∧ qa.td ≤ 1 := ⟨qo', qd, qt⟩
  rw [eqf]
  clear hqf eqf qo' qo qd qt
  have S10a := S10.new (o := .lst [.tup [qa.d, qf.d], .tup [qf.d, qa.d]]) hp2
  wtm_at "go"
  refine spTaken.mkS S10a (by decide) (by decide) fun r2 s11 r20 r21 n11 S11 => ?_
  wtm_at "go"
  obtain ⟨xa, xb, hj2, gxa, gxb⟩ : ∃ xa xb : Asked, atI [D.tup [qa.d, qf.d], .tup [qf.d, qa.d]] r2 = some (.tup [xa.d, xb.d]) ∧ (xa.of nms ∧ xa.dp ≤ 1 ∧ xa.td ≤ 1) ∧ (xb.of nms ∧ xb.dp ≤ 1 ∧ xb.td ≤ 1) := by
    have : r2 = 0 ∨ r2 = 1 := by omega
    rcases this with rfl | rfl
    · exact ⟨qa, qf, rfl, gqa, gqf⟩
    · exact ⟨qf, qa, rfl, gqf, gqa⟩
  refine i_subL (rd_L (by rw [mput_ne np2]; exact mput_same)) hj2 ?_
  wtm_at "go"
  refine spTold.mkS (dp := 3) S11 rfl (by omega) fun t s12 td tof n12 S12 => ?_
  have tof' := Told.of_mono hkn tof
  wtm_at "go"
  obtain ⟨L0, hL0⟩ : ∃ L : List Con, L = [y, mo, .give "a" "b" "c" t, .ite qa y y] := ⟨_, rfl⟩
  have GL0 : ∀ x ∈ L0, G19 (abcW s1) nms x := fun x hx => by
    rw [hL0] at hx
    simp only [List.mem_cons, List.not_mem_nil, or_false] at hx
    rcases hx with rfl | rfl | rfl | rfl
    · exact G1
    · exact Gm
    · exact G19.give tof' (by omega)
    · exact ⟨⟨⟨gqa.1, by omega, by omega⟩, G1.g, G1.g⟩, by simp only [Con.rk]; omega, by simp only [Con.dp]; omega⟩
  have hl0 : L0.length = 4 := by rw [hL0]; rfl
  refine newL_as (L0.map Con.d) (by rw [hL0]; rfl) ?_
  have n812 := Dr.nx_trans n810 (Dr.nx_trans n11 n12)
  generalize mput (mput (mput (mput (mput M' a s9.o) a s10.o) p2 (.lst [.tup [qa.d, qf.d], .tup [qf.d, qa.d]])) a s11.o) a s12.o = MB at S12 ⊢
  have IB := S12.I
  have NB := S12.N
  clear S12 S11 S10a S10 S9 S8 hp2 np2 hj2 n9 n10 n11 n12 n810
  intro ps hps
  have nps : ps ≠ a := fun z => by rw [z, IB.e] at hps; cases hps
  wtm_at "go"
  refine ⟨⟨_, rd_L mput_same⟩, ?_⟩
  wtm_at "go"
  intro p3 hp3
  have I12a := IB.new (o := .lst (L0.map Con.d)) hps
  have np3 : p3 ≠ a := fun z => by rw [z, I12a.e] at hp3; cases hp3
  have I13 := I12a.new (o := .lst [.str (Str.ofString "if"), .str (Str.ofString "when")]) hp3
  wtm_at "go"
  refine spTaken.mk I13 (by decide) (by decide) fun r4 s13 r40 r41 n13 I14 => ?_
  wtm_at "go"
  obtain ⟨wi, ex, hj3, hk, hC5⟩ : ∃ (wi : Str) (ex : List D), atI [D.str (Str.ofString "if"), .str (Str.ofString "when")] r4 = some (.str wi) ∧
      (((if decide (wi = "if") = true then (1 : Int) else 0) = 1 ∧ ex = [Con.no.d]) ∨ ((if decide (wi = "if") = true then (1 : Int) else 0) = 0 ∧ ex = [])) ∧
      ∀ q5 : Asked, (q5.of nms ∧ q5.dp ≤ 2 ∧ q5.td ≤ 1) → ∃ C5 : Con, D.tup ([.str wi, q5.d, c1.d] ++ ex) = C5.d ∧ G19 (abcW s1) nms C5 := by
    have : r4 = 0 ∨ r4 = 1 := by omega
    rcases this with rfl | rfl
    · exact ⟨"if", [Con.no.d], rfl, .inl ⟨by simp, rfl⟩, fun q5 h => ⟨.ite q5 c1 .no, rfl, ⟨⟨h.1, by omega, by omega⟩, G0.g, trivial⟩, by simp only [Con.rk]; omega, by simp only [Con.dp]; omega⟩⟩
    · exact ⟨"when", [], rfl, .inr ⟨by simp [ofString_inj], rfl⟩, fun q5 h => ⟨.when q5 c1, rfl, ⟨⟨h.1, by omega, by omega⟩, G0.g⟩, by simp only [Con.rk]; omega, by simp only [Con.dp]; omega⟩⟩
  refine i_subL (rd_L (by rw [mput_ne np3]; exact mput_same)) hj3 ?_
  wtm_at "go"
  intro p4 hp4
  have np4 : p4 ≠ a := fun z => by rw [z, I14.e] at hp4; cases hp4
  have I15 := I14.new (o := .lst [.str (Str.ofString "all"), .str (Str.ofString "any")]) hp4
  wtm_at "go"
  refine spTaken.mk I15 (by decide) (by decide) fun r5 s14 r50 r51 n14 I16 => ?_
  wtm_at "go"
  obtain ⟨q5, wj, hj4, eq5, gq5⟩ : ∃ (q5 : Asked) (wj : Str), atI [D.str (Str.ofString "all"), .str (Str.ofString "any")] r5 = some (.str wj) ∧ D.tup [.str wj, xa.d, xb.d] = q5.d ∧ (q5.of nms ∧ q5.dp ≤ 2 ∧ q5.td ≤ 1) := by
    have : r5 = 0 ∨ r5 = 1 := by omega
    rcases this with rfl | rfl
    · exact ⟨.all xa xb, "all", rfl, rfl, ⟨gxa.1, gxb.1⟩, by simp only [Asked.dp]; omega, by simp only [Asked.td]; omega⟩
    · exact ⟨.any xa xb, "any", rfl, rfl, ⟨gxa.1, gxb.1⟩, by simp only [Asked.dp]; omega, by simp only [Asked.td]; omega⟩
  refine i_subL (rd_L (by rw [mput_ne np4]; exact mput_same)) hj4 ?_
  obtain ⟨C5, eC5, gC5⟩ := hC5 q5 gq5
  wtm_at "go"
  have e1 := mput_new (o := .lst [.str (Str.ofString "if"), .str (Str.ofString "when")]) hp3 (mput_same (m := MB) (a := ps) (o := .lst (L0.map Con.d)))
  have e2 : mput (mput (mput MB ps (.lst (L0.map Con.d))) p3 (.lst [.str (Str.ofString "if"), .str (Str.ofString "when")])) a s13.o ps = some (.lst (L0.map Con.d)) := by rw [mput_ne nps]; exact e1
  have e3 := mput_new (o := .lst [.str (Str.ofString "all"), .str (Str.ofString "any")]) hp4 e2
  have e4 : mput (mput (mput (mput (mput MB ps (.lst (L0.map Con.d))) p3 (.lst [.str (Str.ofString "if"), .str (Str.ofString "when")])) a s13.o) p4 (.lst [.str (Str.ofString "all"), .str (Str.ofString "any")])) a s14.o ps = some (.lst (L0.map Con.d)) := by rw [mput_ne nps]; exact e3
  have kp4 : Kp a MB (mput (mput (mput (mput (mput MB ps (.lst (L0.map Con.d))) p3 (.lst [.str (Str.ofString "if"), .str (Str.ofString "when")])) a s13.o) p4 (.lst [.str (Str.ofString "all"), .str (Str.ofString "any")])) a s14.o) :=
    ((((Kp.refl.new hps).new hp3).trans Kp.put).new hp4).trans Kp.put
  have ea4 := I16.e
  have nn14 := Dr.nx_trans n13 n14
  generalize mput (mput (mput (mput (mput MB ps (.lst (L0.map Con.d))) p3 (.lst [.str (Str.ofString "if"), .str (Str.ofString "when")])) a s13.o) p4 (.lst [.str (Str.ofString "all"), .str (Str.ofString "any")])) a s14.o = MC at e4 kp4 ea4 ⊢
  refine ⟨_, e4, small1000 (by rw [List.length_map]; omega), ?_⟩
  clear e1 e2 e3 hp3 hp4 np3 np4 hj3 hj4 I12a I13 I14 I15
  have eq5' : D.tup ([D.str wj] ++ [xa.d, xb.d]) = q5.d := eq5
  rw [eq5']
  generalize hD5 : D.tup [.str wi, q5.d, c1.d] = D5
  have kpD : Kp a MB (mput MC ps (.lst (L0.map Con.d ++ [D5]))) := kp4.own hps
  have eaD : mput MC ps (.lst (L0.map Con.d ++ [D5])) a = some s14.o := by rw [mput_ne nps.symm]; exact ea4
  have hD : mput MC ps (.lst (L0.map Con.d ++ [D5])) ps = some (.lst (L0.map Con.d ++ [D5])) := mput_same
  have ID := IB.kp' I16 kpD nn14 eaD
  generalize mput MC ps (.lst (L0.map Con.d ++ [D5])) = MD at kpD eaD hD ID ⊢
  have at4 : atI (L0.map Con.d ++ [D5]) 4 = some D5 := by
    have := atI_nat (xs := L0.map Con.d ++ [D5]) (j := 4) (v := D5) (by rw [List.getElem?_append_right (by rw [List.length_map]; omega), List.length_map, hl0]; rfl)
    exact this
  wtm_at "go"
  refine i_subL (rd_L hD) at4 ?_
  wtm_at "go"
  refine i_subL (rd_L hD) at4 ?_
  rw [← hD5]
  wtm_at "go"
  refine i_once (by simp) hk ?_
  have exl : ex.length ≤ 1 := by rcases hk with ⟨_, e⟩ | ⟨_, e⟩ <;> rw [e] <;> simp
  refine i_plusT (sl (by simp only [List.length_cons, List.length_nil]; omega)) ?_
  have eC5' : D.tup ([.str wi, q5.d, c1.d] ++ ex) = C5.d := eC5
  rw [eC5']
  unfold gLput
  wtm_at "go"
  refine ⟨4, 4, _, rfl, hD, by rw [List.length_append, List.length_map, hl0]; rfl, ?_⟩
  have eset : (L0.map Con.d ++ [D5]).set 4 C5.d = (L0 ++ [C5]).map Con.d := by
    rw [List.set_append_right _ _ (by rw [List.length_map]; omega), List.length_map, hl0, List.map_append]; rfl
  rw [eset]
  have GL1 : ∀ x ∈ L0 ++ [C5], G19 (abcW s1) nms x := fun x hx => (List.mem_append.mp hx).elim (GL0 x) fun h => by rw [List.mem_singleton.mp h]; exact gC5
  have hl1 : (L0 ++ [C5]).length = 5 := by rw [List.length_append, hl0]; rfl
  clear at4 eset hD5
  generalize L0 ++ [C5] = L1 at GL1 hl1 ⊢
  have kpE : Kp a MB (mput MD ps (.lst (L1.map Con.d))) := kpD.own hps
  have eaE : mput MD ps (.lst (L1.map Con.d)) a = some s14.o := by rw [mput_ne nps.symm]; exact eaD
  have hE : mput MD ps (.lst (L1.map Con.d)) ps = some (.lst (L1.map Con.d)) := mput_same
  have IE := IB.kp' ID kpE nn14 eaE
  generalize mput MD ps (.lst (L1.map Con.d)) = ME at kpE eaE hE IE ⊢
  wtm_at "go"
  obtain ⟨v0, hv0, hv0'⟩ : ∃ v : Int, (10 : Int) ^ Int.toNat 12 - 1 = v ∧ v.natAbs < 10 ^ 12 := ⟨_, rfl, by decide⟩
  obtain ⟨v1, hv1, hv1'⟩ : ∃ v : Int, 1 - (10 : Int) ^ Int.toNat 12 = v ∧ v.natAbs < 10 ^ 12 := ⟨_, rfl, by decide⟩
  refine spTaken.mk IE (by decide) (by decide) fun r6 s15 r60 r61 n15 I17 => ?_
  have hF : mput ME a s15.o ps = some (.lst (L1.map Con.d)) := by rw [mput_ne nps]; exact hE
  generalize mput ME a s15.o = MF at I17 hF ⊢
  clear hE IE eaE kpE ID eaD kpD hD ea4 e4 kp4
  wtm_at "go"
  rw [hv0]
  intro p9 hp9
  have h9 : mput MF p9 (.lst [.tup [.str (Str.ofString "num"), .int v0], .tup [.str (Str.ofString "num"), .int r6]]) p9 = some (.lst [.tup [.str (Str.ofString "num"), .int v0], .tup [.str (Str.ofString "num"), .int r6]]) := mput_same
  have hG := mput_new (o := .lst [.tup [.str (Str.ofString "num"), .int v0], .tup [.str (Str.ofString "num"), .int r6]]) hp9 hF
  have n9 : p9 ≠ ps := fun z => by rw [z, hF] at hp9; cases hp9
  generalize mput MF p9 (.lst [.tup [.str (Str.ofString "num"), .int v0], .tup [.str (Str.ofString "num"), .int r6]]) = MG at h9 hG ⊢
  clear hp9 hF I17
  wtm_at "go"
  refine ⟨⟨_, rd_L hG⟩, ?_⟩
  wtm_at "go"
  refine i_subL (d := .tup [.str (Str.ofString "num"), .int v0]) (rd_L h9) (atI_cons (i := 0) rfl) ?_
  wtm_at "go"
  refine i_subL (d := .tup [.str (Str.ofString "num"), .int r6]) (rd_L h9) rfl ?_
  wtm_at "go"
  refine ⟨_, hG, small1000 (by rw [List.length_map]; omega), ?_⟩
  obtain ⟨C6, hC6⟩ : ∃ C : Con, C = .give "a" "b" "c" (.bin .plus (.num v0) (.num r6)) := ⟨_, rfl⟩
  have eC6 : L1.map Con.d ++ [D.tup [.str (Str.ofString "give"), .str (Str.ofString "a"), .str (Str.ofString "b"), .str (Str.ofString "c"), .tup [.str (Str.ofString "plus"), .tup [.str (Str.ofString "num"), .int v0], .tup [.str (Str.ofString "num"), .int r6]]]] = (L1 ++ [C6]).map Con.d := by
    rw [List.map_append, hC6]; rfl
  rw [eC6]
  have GL2 : ∀ x ∈ L1 ++ [C6], G19 (abcW s1) nms x := fun x hx => (List.mem_append.mp hx).elim (GL1 x) fun h => by
    rw [List.mem_singleton.mp h, hC6]
    exact G19.give ⟨hv0', by show r6.natAbs < 10 ^ 12; omega⟩ (by simp only [Told.dp]; omega)
  have hl2 : (L1 ++ [C6]).length = 6 := by rw [List.length_append, hl1]; rfl
  generalize L1 ++ [C6] = L2 at GL2 hl2 ⊢
  have hH : mput MG ps (.lst (L2.map Con.d)) ps = some (.lst (L2.map Con.d)) := mput_same
  have h9' : mput MG ps (.lst (L2.map Con.d)) p9 = some (.lst [.tup [.str (Str.ofString "num"), .int v0], .tup [.str (Str.ofString "num"), .int r6]]) := by rw [mput_ne n9]; exact h9
  generalize mput MG ps (.lst (L2.map Con.d)) = MH at hH h9' ⊢
  wtm_at "go"
  refine ⟨⟨_, rd_L hH⟩, ?_⟩
  wtm_at "go"
  refine i_subL (d := .tup [.str (Str.ofString "num"), .int r6]) (rd_L h9') rfl ?_
  rw [hv1]
  wtm_at "go"
  refine ⟨_, hH, small1000 (by rw [List.length_map]; omega), ?_⟩
  obtain ⟨C7, hC7⟩ : ∃ C : Con, C = .give "a" "b" "c" (.bin .minus (.num v1) (.num r6)) := ⟨_, rfl⟩
  have eC7 : L2.map Con.d ++ [D.tup [.str (Str.ofString "give"), .str (Str.ofString "a"), .str (Str.ofString "b"), .str (Str.ofString "c"), .tup [.str (Str.ofString "minus"), .tup [.str (Str.ofString "num"), .int v1], .tup [.str (Str.ofString "num"), .int r6]]]] = (L2 ++ [C7]).map Con.d := by
    rw [List.map_append, hC7]; rfl
  rw [eC7]
  have GL3 : ∀ x ∈ L2 ++ [C7], G19 (abcW s1) nms x := fun x hx => (List.mem_append.mp hx).elim (GL2 x) fun h => by
    rw [List.mem_singleton.mp h, hC7]
    exact G19.give ⟨hv1', by show r6.natAbs < 10 ^ 12; omega⟩ (by simp only [Told.dp]; omega)
  generalize L2 ++ [C7] = L3 at GL3 ⊢
  have hK : mput MH ps (.lst (L3.map Con.d)) ps = some (.lst (L3.map Con.d)) := mput_same
  generalize mput MH ps (.lst (L3.map Con.d)) = MK at hK ⊢
  wtm_at "go"
  refine ⟨_, rd_L hK, ?_⟩
  refine forC_ind (fun rr ρ M => ∃ (l2 : List Con) (x10 : Option D), rr = l2.map Con.d ∧ (∀ x ∈ l2, G19 (abcW s1) nms x) ∧ ρ = [some (.ref c), some (.ref a), some c1.d, some y.d, some mo.d, some qa.d, some qf.d, some (.tup [xa.d, xb.d]), some (.ref ps), some (.ref p9), x10] ∧ M = MK)
    ⟨L3, none, rfl, GL3, rfl, rfl⟩ ?_ ?_
  · rintro ρ M ⟨l2, x10, e2, hG, rfl, rfl⟩
    refine ⟨rd_L hK, ?_⟩
    wtm_at "go"
    all_goals exact RtM.mk (q _)
  · rintro d rr ρ M L hL' ⟨l2, x10, e2, hG, rfl, rfl⟩
    cases l2 with
    | nil => cases e2
    | cons x l2 =>
      rw [List.map_cons] at e2
      cases e2
      refine ⟨rd_L hK, ?_⟩
      have gx := hG x List.mem_cons_self
      have k1 := gx.k
      have k2 := Con.sh_rk x
      have k3 := Con.ht_rk x.sh
      wtm_at "go"
      refine ⟨x, _, _, rfl, hW, hN, gx.g, by omega, gx.d, ?_⟩
      wtm_at "go"
      refine ⟨x, _, _, rfl, hW, hN, gx.g, by omega, gx.d, ?_⟩
      wtm_at "go"
      refine ⟨_, _, rfl, by omega, ⟨59, by omega, Con.al (by omega)⟩, ?_⟩
      wtm_at "go"
      exact hL' _ _ ⟨l2, _, rfl, fun z hz => hG z (List.mem_cons_of_mem _ hz), rfl, rfl⟩

set_option maxHeartbeats 0 in
theorem all_mk {l : PySem.W.OpenLaw} {w : World} {K : PySem.W.Frag} {h : Heap} {mg : Str → Option Value} {fa f_joined f_within f_with_inner f_both_of f_turned_side f_shorter_number f_sure f_shorter f_delayed f_turned_once f_chosen f_waited f__law_begun f__law_taken f__law_word f__law_number f__law_told f__law_asked f__law_sides f__law_good f__law_give f__law_contract f__law_drawn f__law_value f__law_alike f__law_dressed f__law_short_number f__law_sure f__law_short_asked f__law_short f_law : Addr} (X : K.In h) (G : h.Ns mainGlobals mg) (hfa : mg "law" = some (.ref fa))
    {od_joined an_joined od_within an_within od_with_inner an_with_inner od_both_of an_both_of od_turned_side an_turned_side od_shorter_number an_shorter_number od_sure an_sure od_shorter an_shorter od_delayed an_delayed od_turned_once an_turned_once od_chosen an_chosen od_waited an_waited od__law_begun an__law_begun od__law_taken an__law_taken od__law_word an__law_word od__law_number an__law_number od__law_told an__law_told od__law_asked an__law_asked od__law_sides an__law_sides od__law_good an__law_good od__law_give an__law_give od__law_contract an__law_contract od__law_drawn an__law_drawn od__law_value an__law_value od__law_alike an__law_alike od__law_dressed an__law_dressed od__law_short_number an__law_short_number od__law_sure an__law_sure od__law_short_asked an__law_short_asked od__law_short an__law_short od_law an_law : Option Addr} {sl_joined sl_within sl_with_inner sl_both_of sl_turned_side sl_shorter_number sl_sure sl_shorter sl_delayed sl_turned_once sl_chosen sl_waited sl__law_begun sl__law_taken sl__law_word sl__law_number sl__law_told sl__law_asked sl__law_sides sl__law_good sl__law_give sl__law_contract sl__law_drawn sl__law_value sl__law_alike sl__law_dressed sl__law_short_number sl__law_sure sl__law_short_asked sl__law_short sl_law : Array (Option Value)} {oc_joined kV_joined dc_joined pm_joined cd_joined ct_joined oc_within kV_within dc_within pm_within cd_within ct_within oc_with_inner kV_with_inner dc_with_inner pm_with_inner cd_with_inner ct_with_inner oc_both_of kV_both_of dc_both_of pm_both_of cd_both_of ct_both_of oc_turned_side kV_turned_side dc_turned_side pm_turned_side cd_turned_side ct_turned_side oc_shorter_number kV_shorter_number dc_shorter_number pm_shorter_number cd_shorter_number ct_shorter_number oc_sure kV_sure dc_sure pm_sure cd_sure ct_sure oc_shorter kV_shorter dc_shorter pm_shorter cd_shorter ct_shorter oc_delayed kV_delayed dc_delayed pm_delayed cd_delayed ct_delayed oc_turned_once kV_turned_once dc_turned_once pm_turned_once cd_turned_once ct_turned_once oc_chosen kV_chosen dc_chosen pm_chosen cd_chosen ct_chosen oc_waited kV_waited dc_waited pm_waited cd_waited ct_waited oc__law_begun kV__law_begun dc__law_begun pm__law_begun cd__law_begun ct__law_begun oc__law_taken kV__law_taken dc__law_taken pm__law_taken cd__law_taken ct__law_taken oc__law_word kV__law_word dc__law_word pm__law_word cd__law_word ct__law_word oc__law_number kV__law_number dc__law_number pm__law_number cd__law_number ct__law_number oc__law_told kV__law_told dc__law_told pm__law_told cd__law_told ct__law_told oc__law_asked kV__law_asked dc__law_asked pm__law_asked cd__law_asked ct__law_asked oc__law_sides kV__law_sides dc__law_sides pm__law_sides cd__law_sides ct__law_sides oc__law_good kV__law_good dc__law_good pm__law_good cd__law_good ct__law_good oc__law_give kV__law_give dc__law_give pm__law_give cd__law_give ct__law_give oc__law_contract kV__law_contract dc__law_contract pm__law_contract cd__law_contract ct__law_contract oc__law_drawn kV__law_drawn dc__law_drawn pm__law_drawn cd__law_drawn ct__law_drawn oc__law_value kV__law_value dc__law_value pm__law_value cd__law_value ct__law_value oc__law_alike kV__law_alike dc__law_alike pm__law_alike cd__law_alike ct__law_alike oc__law_dressed kV__law_dressed dc__law_dressed pm__law_dressed cd__law_dressed ct__law_dressed oc__law_short_number kV__law_short_number dc__law_short_number pm__law_short_number cd__law_short_number ct__law_short_number oc__law_sure kV__law_sure dc__law_sure pm__law_sure cd__law_sure ct__law_sure oc__law_short_asked kV__law_short_asked dc__law_short_asked pm__law_short_asked cd__law_short_asked ct__law_short_asked oc__law_short kV__law_short dc__law_short pm__law_short cd__law_short ct__law_short oc_law kV_law dc_law pm_law cd_law ct_law : Value}
    (a_joined : PySem.W.nsIn K mainGlobals "joined" = some (some (.ref f_joined))) (l_joined : K.lookup f_joined = some ⟨oc_joined, od_joined, .func (PySem.W.fnOf "joined" "joined" (defArgs s_joined) (defBody s_joined) (defScope s_joined) .none kV_joined dc_joined pm_joined an_joined cd_joined ct_joined), sl_joined⟩) (c_joined : PySem.W.codeIn K cd_joined "joined" = true) (k_joined : PySem.W.keepIn K (.ref f_joined) = true)
    (a_within : PySem.W.nsIn K mainGlobals "within" = some (some (.ref f_within))) (l_within : K.lookup f_within = some ⟨oc_within, od_within, .func (PySem.W.fnOf "within" "within" (defArgs s_within) (defBody s_within) (defScope s_within) .none kV_within dc_within pm_within an_within cd_within ct_within), sl_within⟩) (c_within : PySem.W.codeIn K cd_within "within" = true) (k_within : PySem.W.keepIn K (.ref f_within) = true)
    (a_with_inner : PySem.W.nsIn K mainGlobals "with_inner" = some (some (.ref f_with_inner))) (l_with_inner : K.lookup f_with_inner = some ⟨oc_with_inner, od_with_inner, .func (PySem.W.fnOf "with_inner" "with_inner" (defArgs s_with_inner) (defBody s_with_inner) (defScope s_with_inner) .none kV_with_inner dc_with_inner pm_with_inner an_with_inner cd_with_inner ct_with_inner), sl_with_inner⟩) (c_with_inner : PySem.W.codeIn K cd_with_inner "with_inner" = true) (k_with_inner : PySem.W.keepIn K (.ref f_with_inner) = true)
    (a_both_of : PySem.W.nsIn K mainGlobals "both_of" = some (some (.ref f_both_of))) (l_both_of : K.lookup f_both_of = some ⟨oc_both_of, od_both_of, .func (PySem.W.fnOf "both_of" "both_of" (defArgs s_both_of) (defBody s_both_of) (defScope s_both_of) .none kV_both_of dc_both_of pm_both_of an_both_of cd_both_of ct_both_of), sl_both_of⟩) (c_both_of : PySem.W.codeIn K cd_both_of "both_of" = true) (k_both_of : PySem.W.keepIn K (.ref f_both_of) = true)
    (a_turned_side : PySem.W.nsIn K mainGlobals "turned_side" = some (some (.ref f_turned_side))) (l_turned_side : K.lookup f_turned_side = some ⟨oc_turned_side, od_turned_side, .func (PySem.W.fnOf "turned_side" "turned_side" (defArgs s_turned_side) (defBody s_turned_side) (defScope s_turned_side) .none kV_turned_side dc_turned_side pm_turned_side an_turned_side cd_turned_side ct_turned_side), sl_turned_side⟩) (c_turned_side : PySem.W.codeIn K cd_turned_side "turned_side" = true) (k_turned_side : PySem.W.keepIn K (.ref f_turned_side) = true)
    (a_shorter_number : PySem.W.nsIn K mainGlobals "shorter_number" = some (some (.ref f_shorter_number))) (l_shorter_number : K.lookup f_shorter_number = some ⟨oc_shorter_number, od_shorter_number, .func (PySem.W.fnOf "shorter_number" "shorter_number" (defArgs s_shorter_number) (defBody s_shorter_number) (defScope s_shorter_number) .none kV_shorter_number dc_shorter_number pm_shorter_number an_shorter_number cd_shorter_number ct_shorter_number), sl_shorter_number⟩) (c_shorter_number : PySem.W.codeIn K cd_shorter_number "shorter_number" = true) (k_shorter_number : PySem.W.keepIn K (.ref f_shorter_number) = true)
    (a_sure : PySem.W.nsIn K mainGlobals "sure" = some (some (.ref f_sure))) (l_sure : K.lookup f_sure = some ⟨oc_sure, od_sure, .func (PySem.W.fnOf "sure" "sure" (defArgs s_sure) (defBody s_sure) (defScope s_sure) .none kV_sure dc_sure pm_sure an_sure cd_sure ct_sure), sl_sure⟩) (c_sure : PySem.W.codeIn K cd_sure "sure" = true) (k_sure : PySem.W.keepIn K (.ref f_sure) = true)
    (a_shorter : PySem.W.nsIn K mainGlobals "shorter" = some (some (.ref f_shorter))) (l_shorter : K.lookup f_shorter = some ⟨oc_shorter, od_shorter, .func (PySem.W.fnOf "shorter" "shorter" (defArgs s_shorter) (defBody s_shorter) (defScope s_shorter) .none kV_shorter dc_shorter pm_shorter an_shorter cd_shorter ct_shorter), sl_shorter⟩) (c_shorter : PySem.W.codeIn K cd_shorter "shorter" = true) (k_shorter : PySem.W.keepIn K (.ref f_shorter) = true)
    (a_delayed : PySem.W.nsIn K mainGlobals "delayed" = some (some (.ref f_delayed))) (l_delayed : K.lookup f_delayed = some ⟨oc_delayed, od_delayed, .func (PySem.W.fnOf "delayed" "delayed" (defArgs s_delayed) (defBody s_delayed) (defScope s_delayed) .none kV_delayed dc_delayed pm_delayed an_delayed cd_delayed ct_delayed), sl_delayed⟩) (c_delayed : PySem.W.codeIn K cd_delayed "delayed" = true) (k_delayed : PySem.W.keepIn K (.ref f_delayed) = true)
    (a_turned_once : PySem.W.nsIn K mainGlobals "turned_once" = some (some (.ref f_turned_once))) (l_turned_once : K.lookup f_turned_once = some ⟨oc_turned_once, od_turned_once, .func (PySem.W.fnOf "turned_once" "turned_once" (defArgs s_turned_once) (defBody s_turned_once) (defScope s_turned_once) .none kV_turned_once dc_turned_once pm_turned_once an_turned_once cd_turned_once ct_turned_once), sl_turned_once⟩) (c_turned_once : PySem.W.codeIn K cd_turned_once "turned_once" = true) (k_turned_once : PySem.W.keepIn K (.ref f_turned_once) = true)
    (a_chosen : PySem.W.nsIn K mainGlobals "chosen" = some (some (.ref f_chosen))) (l_chosen : K.lookup f_chosen = some ⟨oc_chosen, od_chosen, .func (PySem.W.fnOf "chosen" "chosen" (defArgs s_chosen) (defBody s_chosen) (defScope s_chosen) .none kV_chosen dc_chosen pm_chosen an_chosen cd_chosen ct_chosen), sl_chosen⟩) (c_chosen : PySem.W.codeIn K cd_chosen "chosen" = true) (k_chosen : PySem.W.keepIn K (.ref f_chosen) = true)
    (a_waited : PySem.W.nsIn K mainGlobals "waited" = some (some (.ref f_waited))) (l_waited : K.lookup f_waited = some ⟨oc_waited, od_waited, .func (PySem.W.fnOf "waited" "waited" (defArgs s_waited) (defBody s_waited) (defScope s_waited) .none kV_waited dc_waited pm_waited an_waited cd_waited ct_waited), sl_waited⟩) (c_waited : PySem.W.codeIn K cd_waited "waited" = true) (k_waited : PySem.W.keepIn K (.ref f_waited) = true)
    (a__law_begun : PySem.W.nsIn K mainGlobals "_law_begun" = some (some (.ref f__law_begun))) (l__law_begun : K.lookup f__law_begun = some ⟨oc__law_begun, od__law_begun, .func (PySem.W.fnOf "_law_begun" "_law_begun" (defArgs s__law_begun) (defBody s__law_begun) (defScope s__law_begun) .none kV__law_begun dc__law_begun pm__law_begun an__law_begun cd__law_begun ct__law_begun), sl__law_begun⟩) (c__law_begun : PySem.W.codeIn K cd__law_begun "_law_begun" = true) (k__law_begun : PySem.W.keepIn K (.ref f__law_begun) = true)
    (a__law_taken : PySem.W.nsIn K mainGlobals "_law_taken" = some (some (.ref f__law_taken))) (l__law_taken : K.lookup f__law_taken = some ⟨oc__law_taken, od__law_taken, .func (PySem.W.fnOf "_law_taken" "_law_taken" (defArgs s__law_taken) (defBody s__law_taken) (defScope s__law_taken) .none kV__law_taken dc__law_taken pm__law_taken an__law_taken cd__law_taken ct__law_taken), sl__law_taken⟩) (c__law_taken : PySem.W.codeIn K cd__law_taken "_law_taken" = true) (k__law_taken : PySem.W.keepIn K (.ref f__law_taken) = true)
    (a__law_word : PySem.W.nsIn K mainGlobals "_law_word" = some (some (.ref f__law_word))) (l__law_word : K.lookup f__law_word = some ⟨oc__law_word, od__law_word, .func (PySem.W.fnOf "_law_word" "_law_word" (defArgs s__law_word) (defBody s__law_word) (defScope s__law_word) .none kV__law_word dc__law_word pm__law_word an__law_word cd__law_word ct__law_word), sl__law_word⟩) (c__law_word : PySem.W.codeIn K cd__law_word "_law_word" = true) (k__law_word : PySem.W.keepIn K (.ref f__law_word) = true)
    (a__law_number : PySem.W.nsIn K mainGlobals "_law_number" = some (some (.ref f__law_number))) (l__law_number : K.lookup f__law_number = some ⟨oc__law_number, od__law_number, .func (PySem.W.fnOf "_law_number" "_law_number" (defArgs s__law_number) (defBody s__law_number) (defScope s__law_number) .none kV__law_number dc__law_number pm__law_number an__law_number cd__law_number ct__law_number), sl__law_number⟩) (c__law_number : PySem.W.codeIn K cd__law_number "_law_number" = true) (k__law_number : PySem.W.keepIn K (.ref f__law_number) = true)
    (a__law_told : PySem.W.nsIn K mainGlobals "_law_told" = some (some (.ref f__law_told))) (l__law_told : K.lookup f__law_told = some ⟨oc__law_told, od__law_told, .func (PySem.W.fnOf "_law_told" "_law_told" (defArgs s__law_told) (defBody s__law_told) (defScope s__law_told) .none kV__law_told dc__law_told pm__law_told an__law_told cd__law_told ct__law_told), sl__law_told⟩) (c__law_told : PySem.W.codeIn K cd__law_told "_law_told" = true) (k__law_told : PySem.W.keepIn K (.ref f__law_told) = true)
    (a__law_asked : PySem.W.nsIn K mainGlobals "_law_asked" = some (some (.ref f__law_asked))) (l__law_asked : K.lookup f__law_asked = some ⟨oc__law_asked, od__law_asked, .func (PySem.W.fnOf "_law_asked" "_law_asked" (defArgs s__law_asked) (defBody s__law_asked) (defScope s__law_asked) .none kV__law_asked dc__law_asked pm__law_asked an__law_asked cd__law_asked ct__law_asked), sl__law_asked⟩) (c__law_asked : PySem.W.codeIn K cd__law_asked "_law_asked" = true) (k__law_asked : PySem.W.keepIn K (.ref f__law_asked) = true)
    (a__law_sides : PySem.W.nsIn K mainGlobals "_law_sides" = some (some (.ref f__law_sides))) (l__law_sides : K.lookup f__law_sides = some ⟨oc__law_sides, od__law_sides, .func (PySem.W.fnOf "_law_sides" "_law_sides" (defArgs s__law_sides) (defBody s__law_sides) (defScope s__law_sides) .none kV__law_sides dc__law_sides pm__law_sides an__law_sides cd__law_sides ct__law_sides), sl__law_sides⟩) (c__law_sides : PySem.W.codeIn K cd__law_sides "_law_sides" = true) (k__law_sides : PySem.W.keepIn K (.ref f__law_sides) = true)
    (a__law_good : PySem.W.nsIn K mainGlobals "_law_good" = some (some (.ref f__law_good))) (l__law_good : K.lookup f__law_good = some ⟨oc__law_good, od__law_good, .func (PySem.W.fnOf "_law_good" "_law_good" (defArgs s__law_good) (defBody s__law_good) (defScope s__law_good) .none kV__law_good dc__law_good pm__law_good an__law_good cd__law_good ct__law_good), sl__law_good⟩) (c__law_good : PySem.W.codeIn K cd__law_good "_law_good" = true) (k__law_good : PySem.W.keepIn K (.ref f__law_good) = true)
    (a__law_give : PySem.W.nsIn K mainGlobals "_law_give" = some (some (.ref f__law_give))) (l__law_give : K.lookup f__law_give = some ⟨oc__law_give, od__law_give, .func (PySem.W.fnOf "_law_give" "_law_give" (defArgs s__law_give) (defBody s__law_give) (defScope s__law_give) .none kV__law_give dc__law_give pm__law_give an__law_give cd__law_give ct__law_give), sl__law_give⟩) (c__law_give : PySem.W.codeIn K cd__law_give "_law_give" = true) (k__law_give : PySem.W.keepIn K (.ref f__law_give) = true)
    (a__law_contract : PySem.W.nsIn K mainGlobals "_law_contract" = some (some (.ref f__law_contract))) (l__law_contract : K.lookup f__law_contract = some ⟨oc__law_contract, od__law_contract, .func (PySem.W.fnOf "_law_contract" "_law_contract" (defArgs s__law_contract) (defBody s__law_contract) (defScope s__law_contract) .none kV__law_contract dc__law_contract pm__law_contract an__law_contract cd__law_contract ct__law_contract), sl__law_contract⟩) (c__law_contract : PySem.W.codeIn K cd__law_contract "_law_contract" = true) (k__law_contract : PySem.W.keepIn K (.ref f__law_contract) = true)
    (a__law_drawn : PySem.W.nsIn K mainGlobals "_law_drawn" = some (some (.ref f__law_drawn))) (l__law_drawn : K.lookup f__law_drawn = some ⟨oc__law_drawn, od__law_drawn, .func (PySem.W.fnOf "_law_drawn" "_law_drawn" (defArgs s__law_drawn) (defBody s__law_drawn) (defScope s__law_drawn) .none kV__law_drawn dc__law_drawn pm__law_drawn an__law_drawn cd__law_drawn ct__law_drawn), sl__law_drawn⟩) (c__law_drawn : PySem.W.codeIn K cd__law_drawn "_law_drawn" = true) (k__law_drawn : PySem.W.keepIn K (.ref f__law_drawn) = true)
    (a__law_value : PySem.W.nsIn K mainGlobals "_law_value" = some (some (.ref f__law_value))) (l__law_value : K.lookup f__law_value = some ⟨oc__law_value, od__law_value, .func (PySem.W.fnOf "_law_value" "_law_value" (defArgs s__law_value) (defBody s__law_value) (defScope s__law_value) .none kV__law_value dc__law_value pm__law_value an__law_value cd__law_value ct__law_value), sl__law_value⟩) (c__law_value : PySem.W.codeIn K cd__law_value "_law_value" = true) (k__law_value : PySem.W.keepIn K (.ref f__law_value) = true)
    (a__law_alike : PySem.W.nsIn K mainGlobals "_law_alike" = some (some (.ref f__law_alike))) (l__law_alike : K.lookup f__law_alike = some ⟨oc__law_alike, od__law_alike, .func (PySem.W.fnOf "_law_alike" "_law_alike" (defArgs s__law_alike) (defBody s__law_alike) (defScope s__law_alike) .none kV__law_alike dc__law_alike pm__law_alike an__law_alike cd__law_alike ct__law_alike), sl__law_alike⟩) (c__law_alike : PySem.W.codeIn K cd__law_alike "_law_alike" = true) (k__law_alike : PySem.W.keepIn K (.ref f__law_alike) = true)
    (a__law_dressed : PySem.W.nsIn K mainGlobals "_law_dressed" = some (some (.ref f__law_dressed))) (l__law_dressed : K.lookup f__law_dressed = some ⟨oc__law_dressed, od__law_dressed, .func (PySem.W.fnOf "_law_dressed" "_law_dressed" (defArgs s__law_dressed) (defBody s__law_dressed) (defScope s__law_dressed) .none kV__law_dressed dc__law_dressed pm__law_dressed an__law_dressed cd__law_dressed ct__law_dressed), sl__law_dressed⟩) (c__law_dressed : PySem.W.codeIn K cd__law_dressed "_law_dressed" = true) (k__law_dressed : PySem.W.keepIn K (.ref f__law_dressed) = true)
    (a__law_short_number : PySem.W.nsIn K mainGlobals "_law_short_number" = some (some (.ref f__law_short_number))) (l__law_short_number : K.lookup f__law_short_number = some ⟨oc__law_short_number, od__law_short_number, .func (PySem.W.fnOf "_law_short_number" "_law_short_number" (defArgs s__law_short_number) (defBody s__law_short_number) (defScope s__law_short_number) .none kV__law_short_number dc__law_short_number pm__law_short_number an__law_short_number cd__law_short_number ct__law_short_number), sl__law_short_number⟩) (c__law_short_number : PySem.W.codeIn K cd__law_short_number "_law_short_number" = true) (k__law_short_number : PySem.W.keepIn K (.ref f__law_short_number) = true)
    (a__law_sure : PySem.W.nsIn K mainGlobals "_law_sure" = some (some (.ref f__law_sure))) (l__law_sure : K.lookup f__law_sure = some ⟨oc__law_sure, od__law_sure, .func (PySem.W.fnOf "_law_sure" "_law_sure" (defArgs s__law_sure) (defBody s__law_sure) (defScope s__law_sure) .none kV__law_sure dc__law_sure pm__law_sure an__law_sure cd__law_sure ct__law_sure), sl__law_sure⟩) (c__law_sure : PySem.W.codeIn K cd__law_sure "_law_sure" = true) (k__law_sure : PySem.W.keepIn K (.ref f__law_sure) = true)
    (a__law_short_asked : PySem.W.nsIn K mainGlobals "_law_short_asked" = some (some (.ref f__law_short_asked))) (l__law_short_asked : K.lookup f__law_short_asked = some ⟨oc__law_short_asked, od__law_short_asked, .func (PySem.W.fnOf "_law_short_asked" "_law_short_asked" (defArgs s__law_short_asked) (defBody s__law_short_asked) (defScope s__law_short_asked) .none kV__law_short_asked dc__law_short_asked pm__law_short_asked an__law_short_asked cd__law_short_asked ct__law_short_asked), sl__law_short_asked⟩) (c__law_short_asked : PySem.W.codeIn K cd__law_short_asked "_law_short_asked" = true) (k__law_short_asked : PySem.W.keepIn K (.ref f__law_short_asked) = true)
    (a__law_short : PySem.W.nsIn K mainGlobals "_law_short" = some (some (.ref f__law_short))) (l__law_short : K.lookup f__law_short = some ⟨oc__law_short, od__law_short, .func (PySem.W.fnOf "_law_short" "_law_short" (defArgs s__law_short) (defBody s__law_short) (defScope s__law_short) .none kV__law_short dc__law_short pm__law_short an__law_short cd__law_short ct__law_short), sl__law_short⟩) (c__law_short : PySem.W.codeIn K cd__law_short "_law_short" = true) (k__law_short : PySem.W.keepIn K (.ref f__law_short) = true)
    (a_law : PySem.W.nsIn K mainGlobals "law" = some (some (.ref f_law))) (l_law : K.lookup f_law = some ⟨oc_law, od_law, .func (PySem.W.fnOf "law" "law" (defArgs s_law) (defBody s_law) (defScope s_law) .none kV_law dc_law pm_law an_law cd_law ct_law), sl_law⟩) (c_law : PySem.W.codeIn K cd_law "law" = true) (k_law : PySem.W.keepIn K (.ref f_law) = true)
    {t_JOINS : Addr} {odt_JOINS : Option Addr} {tn_JOINS : Nat} {ts_JOINS : Array (Option Value)} {tk0_JOINS tk1_JOINS tk2_JOINS tk3_JOINS tk4_JOINS : Tok}
    (g_JOINS : PySem.W.nsIn K mainGlobals "JOINS" = some (some (.ref t_JOINS))) (w_JOINS : K.lookup t_JOINS = some ⟨.type "tuple", odt_JOINS, .seq #[.str "plus" tk0_JOINS, .str "minus" tk1_JOINS, .str "times" tk2_JOINS, .str "most" tk3_JOINS, .str "least" tk4_JOINS] tn_JOINS, ts_JOINS⟩)
    {t_NONE : Addr} {odt_NONE : Option Addr} {tn_NONE : Nat} {ts_NONE : Array (Option Value)} {tk0_NONE : Tok}
    (g_NONE : PySem.W.nsIn K mainGlobals "NONE" = some (some (.ref t_NONE))) (w_NONE : K.lookup t_NONE = some ⟨.type "tuple", odt_NONE, .seq #[.str "none" tk0_NONE] tn_NONE, ts_NONE⟩)
    {tk_MOST_HOURS : Tok} (g_MOST_HOURS : PySem.W.nsIn K mainGlobals "MOST_HOURS" = some (some (.int 99 tk_MOST_HOURS)))
    {tk_GREATEST : Tok} (g_GREATEST : PySem.W.nsIn K mainGlobals "GREATEST" = some (some (.int 1000000000000 tk_GREATEST)))
    (z_min : PySem.W.nsIn K mainGlobals "min" = some none)
    (z_int : PySem.W.nsIn K mainGlobals "int" = some none)
    (z_range : PySem.W.nsIn K mainGlobals "range" = some none)
    (z_isinstance : PySem.W.nsIn K mainGlobals "isinstance" = some none)
    (z_bool : PySem.W.nsIn K mainGlobals "bool" = some none)
    (z_str : PySem.W.nsIn K mainGlobals "str" = some none)
    (z_dict : PySem.W.nsIn K mainGlobals "dict" = some none)
    (z_all : PySem.W.nsIn K mainGlobals "all" = some none)
    (z_max : PySem.W.nsIn K mainGlobals "max" = some none)
    (z_len : PySem.W.nsIn K mainGlobals "len" = some none)
    (z_tuple : PySem.W.nsIn K mainGlobals "tuple" = some none)
    (z_list : PySem.W.nsIn K mainGlobals "list" = some none)
    (z_abs : PySem.W.nsIn K mainGlobals "abs" = some none)
    (z_sorted : PySem.W.nsIn K mainGlobals "sorted" = some none)
    : ∃ fd : FuncData, (∀ (s : Shared) (v : Value), BindsTo s fd ⟨[v], []⟩ [("_law_script", v)]) ∧ ∀ base : Heap, K.In base → base.Ns mainGlobals mg → FnOk l.prog w K mg base CX0 (230) fa fd ["_law_script"] (liftSp K (spLaw K)) := by
  have e := hfa.symm.trans (PySem.W.mg_of X G a_law)
  cases e
  have F_joined := fun_mk (st := s_joined) l_joined c_joined k_joined
  have D_joined : Df K mg "joined" f_joined _ ["word", "one", "other"] := ⟨F_joined.binds (ps := ["word", "one", "other"]) fun _ _ _ _ _ _ us hl => match us, hl with | [_, _, _], _ => rfl, k_joined, PySem.W.mg_of X G a_joined⟩
  have F_within := fun_mk (st := s_within) l_within c_within k_within
  have D_within : Df K mg "within" f_within _ ["contract"] := ⟨F_within.binds (ps := ["contract"]) fun _ _ _ _ _ _ us hl => match us, hl with | [_], _ => rfl, k_within, PySem.W.mg_of X G a_within⟩
  have F_with_inner := fun_mk (st := s_with_inner) l_with_inner c_with_inner k_with_inner
  have D_with_inner : Df K mg "with_inner" f_with_inner _ ["contract", "inner"] := ⟨F_with_inner.binds (ps := ["contract", "inner"]) fun _ _ _ _ _ _ us hl => match us, hl with | [_, _], _ => rfl, k_with_inner, PySem.W.mg_of X G a_with_inner⟩
  have F_both_of := fun_mk (st := s_both_of) l_both_of c_both_of k_both_of
  have D_both_of : Df K mg "both_of" f_both_of _ ["one", "other"] := ⟨F_both_of.binds (ps := ["one", "other"]) fun _ _ _ _ _ _ us hl => match us, hl with | [_, _], _ => rfl, k_both_of, PySem.W.mg_of X G a_both_of⟩
  have F_turned_side := fun_mk (st := s_turned_side) l_turned_side c_turned_side k_turned_side
  have D_turned_side : Df K mg "turned_side" f_turned_side _ ["side", "one", "other"] := ⟨F_turned_side.binds (ps := ["side", "one", "other"]) fun _ _ _ _ _ _ us hl => match us, hl with | [_, _, _], _ => rfl, k_turned_side, PySem.W.mg_of X G a_turned_side⟩
  have F_shorter_number := fun_mk (st := s_shorter_number) l_shorter_number c_shorter_number k_shorter_number
  have D_shorter_number : Df K mg "shorter_number" f_shorter_number _ ["told"] := ⟨F_shorter_number.binds (ps := ["told"]) fun _ _ _ _ _ _ us hl => match us, hl with | [_], _ => rfl, k_shorter_number, PySem.W.mg_of X G a_shorter_number⟩
  have F_sure := fun_mk (st := s_sure) l_sure c_sure k_sure
  have D_sure : Df K mg "sure" f_sure _ ["asked"] := ⟨F_sure.binds (ps := ["asked"]) fun _ _ _ _ _ _ us hl => match us, hl with | [_], _ => rfl, k_sure, PySem.W.mg_of X G a_sure⟩
  have F_shorter := fun_mk (st := s_shorter) l_shorter c_shorter k_shorter
  have D_shorter : Df K mg "shorter" f_shorter _ ["contract"] := ⟨F_shorter.binds (ps := ["contract"]) fun _ _ _ _ _ _ us hl => match us, hl with | [_], _ => rfl, k_shorter, PySem.W.mg_of X G a_shorter⟩
  have F_delayed := fun_mk (st := s_delayed) l_delayed c_delayed k_delayed
  have D_delayed : Df K mg "delayed" f_delayed _ ["hours", "contract"] := ⟨F_delayed.binds (ps := ["hours", "contract"]) fun _ _ _ _ _ _ us hl => match us, hl with | [_, _], _ => rfl, k_delayed, PySem.W.mg_of X G a_delayed⟩
  have F_turned_once := fun_mk (st := s_turned_once) l_turned_once c_turned_once k_turned_once
  have D_turned_once : Df K mg "turned_once" f_turned_once _ ["contract"] := ⟨F_turned_once.binds (ps := ["contract"]) fun _ _ _ _ _ _ us hl => match us, hl with | [_], _ => rfl, k_turned_once, PySem.W.mg_of X G a_turned_once⟩
  have F_chosen := fun_mk (st := s_chosen) l_chosen c_chosen k_chosen
  have D_chosen : Df K mg "chosen" f_chosen _ ["contract"] := ⟨F_chosen.binds (ps := ["contract"]) fun _ _ _ _ _ _ us hl => match us, hl with | [_], _ => rfl, k_chosen, PySem.W.mg_of X G a_chosen⟩
  have F_waited := fun_mk (st := s_waited) l_waited c_waited k_waited
  have D_waited : Df K mg "waited" f_waited _ ["contract"] := ⟨F_waited.binds (ps := ["contract"]) fun _ _ _ _ _ _ us hl => match us, hl with | [_], _ => rfl, k_waited, PySem.W.mg_of X G a_waited⟩
  have F__law_begun := fun_mk (st := s__law_begun) l__law_begun c__law_begun k__law_begun
  have D__law_begun : Df K mg "_law_begun" f__law_begun _ ["_law_script"] := ⟨F__law_begun.binds (ps := ["_law_script"]) fun _ _ _ _ _ _ us hl => match us, hl with | [_], _ => rfl, k__law_begun, PySem.W.mg_of X G a__law_begun⟩
  have F__law_taken := fun_mk (st := s__law_taken) l__law_taken c__law_taken k__law_taken
  have D__law_taken : Df K mg "_law_taken" f__law_taken _ ["_law_s", "_law_most"] := ⟨F__law_taken.binds (ps := ["_law_s", "_law_most"]) fun _ _ _ _ _ _ us hl => match us, hl with | [_, _], _ => rfl, k__law_taken, PySem.W.mg_of X G a__law_taken⟩
  have F__law_word := fun_mk (st := s__law_word) l__law_word c__law_word k__law_word
  have D__law_word : Df K mg "_law_word" f__law_word _ ["_law_s", "_law_k"] := ⟨F__law_word.binds (ps := ["_law_s", "_law_k"]) fun _ _ _ _ _ _ us hl => match us, hl with | [_, _], _ => rfl, k__law_word, PySem.W.mg_of X G a__law_word⟩
  have F__law_number := fun_mk (st := s__law_number) l__law_number c__law_number k__law_number
  have D__law_number : Df K mg "_law_number" f__law_number _ ["_law_s"] := ⟨F__law_number.binds (ps := ["_law_s"]) fun _ _ _ _ _ _ us hl => match us, hl with | [_], _ => rfl, k__law_number, PySem.W.mg_of X G a__law_number⟩
  have F__law_told := fun_mk (st := s__law_told) l__law_told c__law_told k__law_told
  have D__law_told : Df K mg "_law_told" f__law_told _ ["_law_s", "_law_deep"] := ⟨F__law_told.binds (ps := ["_law_s", "_law_deep"]) fun _ _ _ _ _ _ us hl => match us, hl with | [_, _], _ => rfl, k__law_told, PySem.W.mg_of X G a__law_told⟩
  have F__law_asked := fun_mk (st := s__law_asked) l__law_asked c__law_asked k__law_asked
  have D__law_asked : Df K mg "_law_asked" f__law_asked _ ["_law_s", "_law_deep"] := ⟨F__law_asked.binds (ps := ["_law_s", "_law_deep"]) fun _ _ _ _ _ _ us hl => match us, hl with | [_, _], _ => rfl, k__law_asked, PySem.W.mg_of X G a__law_asked⟩
  have F__law_sides := fun_mk (st := s__law_sides) l__law_sides c__law_sides k__law_sides
  have D__law_sides : Df K mg "_law_sides" f__law_sides _ ["_law_s"] := ⟨F__law_sides.binds (ps := ["_law_s"]) fun _ _ _ _ _ _ us hl => match us, hl with | [_], _ => rfl, k__law_sides, PySem.W.mg_of X G a__law_sides⟩
  have F__law_good := fun_mk (st := s__law_good) l__law_good c__law_good k__law_good
  have D__law_good : Df K mg "_law_good" f__law_good _ ["_law_s"] := ⟨F__law_good.binds (ps := ["_law_s"]) fun _ _ _ _ _ _ us hl => match us, hl with | [_], _ => rfl, k__law_good, PySem.W.mg_of X G a__law_good⟩
  have F__law_give := fun_mk (st := s__law_give) l__law_give c__law_give k__law_give
  have D__law_give : Df K mg "_law_give" f__law_give _ ["_law_s"] := ⟨F__law_give.binds (ps := ["_law_s"]) fun _ _ _ _ _ _ us hl => match us, hl with | [_], _ => rfl, k__law_give, PySem.W.mg_of X G a__law_give⟩
  have F__law_contract := fun_mk (st := s__law_contract) l__law_contract c__law_contract k__law_contract
  have D__law_contract : Df K mg "_law_contract" f__law_contract _ ["_law_s", "_law_deep"] := ⟨F__law_contract.binds (ps := ["_law_s", "_law_deep"]) fun _ _ _ _ _ _ us hl => match us, hl with | [_, _], _ => rfl, k__law_contract, PySem.W.mg_of X G a__law_contract⟩
  have F__law_drawn := fun_mk (st := s__law_drawn) l__law_drawn c__law_drawn k__law_drawn
  have D__law_drawn : Df K mg "_law_drawn" f__law_drawn _ ["_law_s", "_law_many"] := ⟨F__law_drawn.binds (ps := ["_law_s", "_law_many"]) fun _ _ _ _ _ _ us hl => match us, hl with | [_, _], _ => rfl, k__law_drawn, PySem.W.mg_of X G a__law_drawn⟩
  have F__law_value := fun_mk (st := s__law_value) l__law_value c__law_value k__law_value
  have D__law_value : Df K mg "_law_value" f__law_value _ ["_law_told_here", "_law_row"] := ⟨F__law_value.binds (ps := ["_law_told_here", "_law_row"]) fun _ _ _ _ _ _ us hl => match us, hl with | [_, _], _ => rfl, k__law_value, PySem.W.mg_of X G a__law_value⟩
  have F__law_alike := fun_mk (st := s__law_alike) l__law_alike c__law_alike k__law_alike
  have D__law_alike : Df K mg "_law_alike" f__law_alike _ ["_law_found", "_law_due"] := ⟨F__law_alike.binds (ps := ["_law_found", "_law_due"]) fun _ _ _ _ _ _ us hl => match us, hl with | [_, _], _ => rfl, k__law_alike, PySem.W.mg_of X G a__law_alike⟩
  have F__law_dressed := fun_mk (st := s__law_dressed) l__law_dressed c__law_dressed k__law_dressed
  have D__law_dressed : Df K mg "_law_dressed" f__law_dressed _ ["_law_s", "_law_contract_here", "_law_deep"] := ⟨F__law_dressed.binds (ps := ["_law_s", "_law_contract_here", "_law_deep"]) fun _ _ _ _ _ _ us hl => match us, hl with | [_, _, _], _ => rfl, k__law_dressed, PySem.W.mg_of X G a__law_dressed⟩
  have F__law_short_number := fun_mk (st := s__law_short_number) l__law_short_number c__law_short_number k__law_short_number
  have D__law_short_number : Df K mg "_law_short_number" f__law_short_number _ ["_law_told_here"] := ⟨F__law_short_number.binds (ps := ["_law_told_here"]) fun _ _ _ _ _ _ us hl => match us, hl with | [_], _ => rfl, k__law_short_number, PySem.W.mg_of X G a__law_short_number⟩
  have F__law_sure := fun_mk (st := s__law_sure) l__law_sure c__law_sure k__law_sure
  have D__law_sure : Df K mg "_law_sure" f__law_sure _ ["_law_asked_here"] := ⟨F__law_sure.binds (ps := ["_law_asked_here"]) fun _ _ _ _ _ _ us hl => match us, hl with | [_], _ => rfl, k__law_sure, PySem.W.mg_of X G a__law_sure⟩
  have F__law_short_asked := fun_mk (st := s__law_short_asked) l__law_short_asked c__law_short_asked k__law_short_asked
  have D__law_short_asked : Df K mg "_law_short_asked" f__law_short_asked _ ["_law_word_here", "_law_asked_here", "_law_inner", "_law_other"] := ⟨F__law_short_asked.binds (ps := ["_law_word_here", "_law_asked_here", "_law_inner", "_law_other"]) fun _ _ _ _ _ _ us hl => match us, hl with | [_, _, _, _], _ => rfl, k__law_short_asked, PySem.W.mg_of X G a__law_short_asked⟩
  have F__law_short := fun_mk (st := s__law_short) l__law_short c__law_short k__law_short
  have D__law_short : Df K mg "_law_short" f__law_short _ ["_law_contract_here"] := ⟨F__law_short.binds (ps := ["_law_contract_here"]) fun _ _ _ _ _ _ us hl => match us, hl with | [_], _ => rfl, k__law_short, PySem.W.mg_of X G a__law_short⟩
  have F_law := fun_mk (st := s_law) l_law c_law k_law
  have V : Gv K mg := { JOINS := gl_tupS (zs := ["plus", "minus", "times", "most", "least"]) (PySem.W.mg_of X G g_JOINS) w_JOINS rfl rfl (by show 5 ≤ sizeLine; decide) (.cons ⟨_, rfl⟩ (.cons ⟨_, rfl⟩ (.cons ⟨_, rfl⟩ (.cons ⟨_, rfl⟩ (.cons ⟨_, rfl⟩ (.nil)))))) (by decide), NONE := gl_tupS (zs := ["none"]) (PySem.W.mg_of X G g_NONE) w_NONE rfl rfl (by show 1 ≤ sizeLine; decide) (.cons ⟨_, rfl⟩ (.nil)) (by decide), MOST_HOURS := ⟨.int 99, _, PySem.W.mg_of X G g_MOST_HOURS, ⟨_, rfl⟩, fun _ => Rep.int⟩, GREATEST := ⟨.int 1000000000000, _, PySem.W.mg_of X G g_GREATEST, ⟨_, rfl⟩, fun _ => Rep.int⟩ }
  have Z : Bl mg := ⟨PySem.W.mg_none_of X G z_min, PySem.W.mg_none_of X G z_int, PySem.W.mg_none_of X G z_range, PySem.W.mg_none_of X G z_isinstance, PySem.W.mg_none_of X G z_bool, PySem.W.mg_none_of X G z_str, PySem.W.mg_none_of X G z_dict, PySem.W.mg_none_of X G z_all, PySem.W.mg_none_of X G z_max, PySem.W.mg_none_of X G z_len, PySem.W.mg_none_of X G z_tuple, PySem.W.mg_none_of X G z_list, PySem.W.mg_none_of X G z_abs, PySem.W.mg_none_of X G z_sorted⟩
  refine ⟨PySem.W.fnOf "law" "law" (defArgs s_law) (defBody s_law) (defScope s_law) .none kV_law dc_law pm_law an_law cd_law ct_law, fun s v => .of_eq rfl, fun base _ _ => ?_⟩
  have G_joined := ok_joined (P := l.prog) (w := w) (base := base) Z (k := 10) F_joined
  have G_both_of := ok_both_of (P := l.prog) (w := w) (base := base) (k := 10) V F_both_of
  have G_turned_side := ok_turned_side (mg := mg) (P := l.prog) (w := w) (base := base) (k := 10) F_turned_side
  have G__law_taken := ok_law_taken (P := l.prog) (w := w) (base := base) Z (k := 10) F__law_taken
  have G__law_number := ok_law_number (P := l.prog) (w := w) (base := base) D__law_taken G__law_taken F__law_number
  have G__law_told := fin_law_told Z D__law_taken (G__law_taken.mono (show 11 ≤ 12 by omega)) D__law_number G__law_number D__law_told F__law_told
  have G__law_begun := ok_law_begun Z D__law_taken G__law_taken F__law_begun
  have G__law_word := ok_law_word (P := l.prog) (w := w) (base := base) Z (k := 10) F__law_word
  have G__law_sides := ok_law_sides Z D__law_taken G__law_taken D__law_word G__law_word F__law_sides
  have G__law_good := ok_law_good Z D__law_taken G__law_taken D__law_word G__law_word F__law_good
  have G__law_give := ok_law_give Z D__law_sides (G__law_sides.mono (show 12 ≤ 20 by omega)) D__law_good (G__law_good.mono (show 12 ≤ 20 by omega)) D__law_told ((G__law_told 3).mono (show 12 + 3 ≤ 20 by omega)) F__law_give
  have G__law_asked := fin_law_asked Z D__law_taken (G__law_taken.mono (show 11 ≤ 20 by omega)) D__law_told ((G__law_told 2).mono (show 12 + 2 ≤ 20 by omega)) D__law_asked F__law_asked
  have G__law_contract := fin_law_contract Z D__law_taken (G__law_taken.mono (show 11 ≤ 30 by omega)) D__law_give (G__law_give.mono (show 21 ≤ 30 by omega)) D__law_sides (G__law_sides.mono (show 12 ≤ 30 by omega)) D__law_asked ((G__law_asked 3).mono (show 20 + 3 ≤ 30 by omega)) D__law_contract F__law_contract
  have G__law_drawn := ok_law_drawn Z D__law_taken (G__law_taken.mono (show 11 ≤ 40 by omega)) D__law_word (G__law_word.mono (show 11 ≤ 40 by omega)) D__law_sides (G__law_sides.mono (show 12 ≤ 40 by omega)) D__law_good (G__law_good.mono (show 12 ≤ 40 by omega)) D__law_told ((G__law_told 2).mono (show 12 + 2 ≤ 40 by omega)) D__law_asked ((G__law_asked 1).mono (show 20 + 1 ≤ 40 by omega)) D__law_contract ((G__law_contract 4).mono (show 30 + 4 ≤ 40 by omega)) F__law_drawn
  have G__law_dressed := fin_law_dressed (c := 40) Z D__law_taken (G__law_taken.mono (by omega)) D__law_sides (G__law_sides.mono (by omega)) D__law_asked ((G__law_asked 2).mono (by omega)) D__law_dressed F__law_dressed
  have G__law_alike := fin_law_alike (P := l.prog) (w := w) (base := base) (c := 10) Z D__law_alike F__law_alike
  have G__law_value := fin_law_value (P := l.prog) (w := w) (base := base) (c := 10) Z D__law_value F__law_value 13
  have G_within := ok_within (mg := mg) (P := l.prog) (w := w) (base := base) (k := 10) F_within
  have G_with_inner := ok_with_inner (mg := mg) (P := l.prog) (w := w) (base := base) (k := 10) F_with_inner
  have G_shorter_number := fin_shorter_number (c := 20) V D_joined (G_joined.mono (by omega)) D_shorter_number F_shorter_number 20
  have G_sure := fin_sure (c := 40) V D_shorter_number (G_shorter_number.mono (by omega)) D_sure F_sure 20
  have G_delayed := ok_delayed (P := l.prog) (w := w) (base := base) (k := 10) V F_delayed
  have G_turned_once := ok_turned_once V D_turned_side G_turned_side F_turned_once
  have G_chosen := ok_chosen D_sure G_sure F_chosen
  have G_waited := ok_waited V D_sure G_sure F_waited
  have G_shorter := fin_shorter (c := 70) V D_with_inner (G_with_inner.mono (by omega)) D_within (G_within.mono (by omega)) D_shorter_number (G_shorter_number.mono (by omega)) D_both_of (G_both_of.mono (by omega)) D_chosen (G_chosen.mono (by omega)) D_turned_once (G_turned_once.mono (by omega)) D_delayed (G_delayed.mono (by omega)) D_waited (G_waited.mono (by omega)) D_shorter F_shorter
  have G__law_short_number := fin_law_short_number (c := 30) Z D__law_value (G__law_value.mono (by omega)) D__law_short_number F__law_short_number 20
  have G__law_sure := fin_law_sure (c := 60) Z D__law_short_number (G__law_short_number.mono (by omega)) D__law_sure F__law_sure 20
  have G__law_short_asked := ok_law_short_asked Z D__law_sure G__law_sure F__law_short_asked
  have G__law_short := fin_law_short (c := 90) Z D__law_short_number (G__law_short_number.mono (by omega)) D__law_short_asked (G__law_short_asked.mono (by omega)) D__law_short F__law_short
  exact ok_law (k := 229) V Z D__law_begun (G__law_begun.mono (by omega)) D__law_taken (G__law_taken.mono (by omega)) D__law_drawn (G__law_drawn.mono (by omega)) D__law_dressed ((G__law_dressed 2).mono (by omega)) D__law_asked ((G__law_asked 3).mono (by omega)) D__law_told ((G__law_told 4).mono (by omega)) D__law_contract ((G__law_contract 3).mono (by omega)) D_shorter ((G_shorter 20).mono (by omega)) D__law_short ((G__law_short 20).mono (by omega)) D__law_alike ((G__law_alike 60).mono (by omega)) F_law
theorem walk {l : PySem.W.OpenLaw} {q : Program} {loose : List Str} {XP : (Str → Option Value) → Heap → Prop} {YP : World → Heap → Prop} {d : DefRec} {K : Params → PySem.W.Frag} (hn : l.most = some 63) (hdf : d.params.defaults = [])
    (hY : ∀ (w : World) (h : Heap), YP w h → (K w.params).In h)
    (F : ∀ (w : World) (mg : Str → Option Value) (fa : Addr) (h : Heap), (K w.params).In h → h.Ns mainGlobals mg → mg d.name = some (.ref fa) →
      ∃ fd : FuncData, (∀ (s : Shared) (u : Value), BindsTo s fd ⟨[u], []⟩ [("_law_script", u)]) ∧ ∀ base : Heap, (K w.params).In base → base.Ns mainGlobals mg → FnOk l.prog w (K w.params) mg base CX0 (230) fa fd ["_law_script"] (liftSp (K w.params) (spLaw (K w.params)))) :
    PySem.W.WalkO q loose XP YP l.row.toRowW d [] (fun f vs => PySem.call f vs) :=
  L2.walk_of (n := 63) (k := 230) (x := "_law_script") (CX := fun _ => CX0) (sp := fun w => liftSp (K w.params) (spLaw (K w.params))) hn (by decide) hdf ⟨rfl, by decide, by decide⟩ hY F (fun _ _ a ns hl _ hS => spLaw_start hl hS) fun _ _ _ _ _ z => z
end Mm
open PySem PySem.W PyProof.Rows
set_option maxRecDepth 100000 in
set_option maxHeartbeats 0 in
theorem PySem.Challenge.cw_contractbook_k19_shorter_as_told_holds : PySem.Challenge.rw_contractbook_k19_shorter_as_told.Holds := by
  w_on; o_law; k_head; (case hw => w_witness2)
  k_fill
  refine Mm.walk (l := PySem.Challenge.rw_contractbook_k19_shorter_as_told) rfl rfl (fun w h Y => PySem.W.kIn_of Y) ?F
  case F =>
    intro w mg fa h KX G hmg
    refine' Mm.all_mk KX G hmg ?a_joined ?l_joined ?c_joined ?k_joined ?a_within ?l_within ?c_within ?k_within ?a_with_inner ?l_with_inner ?c_with_inner ?k_with_inner ?a_both_of ?l_both_of ?c_both_of ?k_both_of ?a_turned_side ?l_turned_side ?c_turned_side ?k_turned_side ?a_shorter_number ?l_shorter_number ?c_shorter_number ?k_shorter_number ?a_sure ?l_sure ?c_sure ?k_sure ?a_shorter ?l_shorter ?c_shorter ?k_shorter ?a_delayed ?l_delayed ?c_delayed ?k_delayed ?a_turned_once ?l_turned_once ?c_turned_once ?k_turned_once ?a_chosen ?l_chosen ?c_chosen ?k_chosen ?a_waited ?l_waited ?c_waited ?k_waited ?a__law_begun ?l__law_begun ?c__law_begun ?k__law_begun ?a__law_taken ?l__law_taken ?c__law_taken ?k__law_taken ?a__law_word ?l__law_word ?c__law_word ?k__law_word ?a__law_number ?l__law_number ?c__law_number ?k__law_number ?a__law_told ?l__law_told ?c__law_told ?k__law_told ?a__law_asked ?l__law_asked ?c__law_asked ?k__law_asked ?a__law_sides ?l__law_sides ?c__law_sides ?k__law_sides ?a__law_good ?l__law_good ?c__law_good ?k__law_good ?a__law_give ?l__law_give ?c__law_give ?k__law_give ?a__law_contract ?l__law_contract ?c__law_contract ?k__law_contract ?a__law_drawn ?l__law_drawn ?c__law_drawn ?k__law_drawn ?a__law_value ?l__law_value ?c__law_value ?k__law_value ?a__law_alike ?l__law_alike ?c__law_alike ?k__law_alike ?a__law_dressed ?l__law_dressed ?c__law_dressed ?k__law_dressed ?a__law_short_number ?l__law_short_number ?c__law_short_number ?k__law_short_number ?a__law_sure ?l__law_sure ?c__law_sure ?k__law_sure ?a__law_short_asked ?l__law_short_asked ?c__law_short_asked ?k__law_short_asked ?a__law_short ?l__law_short ?c__law_short ?k__law_short ?a_law ?l_law ?c_law ?k_law ?g_JOINS ?w_JOINS ?g_NONE ?w_NONE ?g_MOST_HOURS ?g_GREATEST ?z_min ?z_int ?z_range ?z_isinstance ?z_bool ?z_str ?z_dict ?z_all ?z_max ?z_len ?z_tuple ?z_list ?z_abs ?z_sorted
    (case a_joined => k_is)
    (case l_joined => k_is)
    (case c_joined => k_is)
    (case k_joined => k_is)
    (case a_within => k_is)
    (case l_within => k_is)
    (case c_within => k_is)
    (case k_within => k_is)
    (case a_with_inner => k_is)
    (case l_with_inner => k_is)
    (case c_with_inner => k_is)
    (case k_with_inner => k_is)
    (case a_both_of => k_is)
    (case l_both_of => k_is)
    (case c_both_of => k_is)
    (case k_both_of => k_is)
    (case a_turned_side => k_is)
    (case l_turned_side => k_is)
    (case c_turned_side => k_is)
    (case k_turned_side => k_is)
    (case a_shorter_number => k_is)
    (case l_shorter_number => k_is)
    (case c_shorter_number => k_is)
    (case k_shorter_number => k_is)
    (case a_sure => k_is)
    (case l_sure => k_is)
    (case c_sure => k_is)
    (case k_sure => k_is)
    (case a_shorter => k_is)
    (case l_shorter => k_is)
    (case c_shorter => k_is)
    (case k_shorter => k_is)
    (case a_delayed => k_is)
    (case l_delayed => k_is)
    (case c_delayed => k_is)
    (case k_delayed => k_is)
    (case a_turned_once => k_is)
    (case l_turned_once => k_is)
    (case c_turned_once => k_is)
    (case k_turned_once => k_is)
    (case a_chosen => k_is)
    (case l_chosen => k_is)
    (case c_chosen => k_is)
    (case k_chosen => k_is)
    (case a_waited => k_is)
    (case l_waited => k_is)
    (case c_waited => k_is)
    (case k_waited => k_is)
    (case a__law_begun => k_is)
    (case l__law_begun => k_is)
    (case c__law_begun => k_is)
    (case k__law_begun => k_is)
    (case a__law_taken => k_is)
    (case l__law_taken => k_is)
    (case c__law_taken => k_is)
    (case k__law_taken => k_is)
    (case a__law_word => k_is)
    (case l__law_word => k_is)
    (case c__law_word => k_is)
    (case k__law_word => k_is)
    (case a__law_number => k_is)
    (case l__law_number => k_is)
    (case c__law_number => k_is)
    (case k__law_number => k_is)
    (case a__law_told => k_is)
    (case l__law_told => k_is)
    (case c__law_told => k_is)
    (case k__law_told => k_is)
    (case a__law_asked => k_is)
    (case l__law_asked => k_is)
    (case c__law_asked => k_is)
    (case k__law_asked => k_is)
    (case a__law_sides => k_is)
    (case l__law_sides => k_is)
    (case c__law_sides => k_is)
    (case k__law_sides => k_is)
    (case a__law_good => k_is)
    (case l__law_good => k_is)
    (case c__law_good => k_is)
    (case k__law_good => k_is)
    (case a__law_give => k_is)
    (case l__law_give => k_is)
    (case c__law_give => k_is)
    (case k__law_give => k_is)
    (case a__law_contract => k_is)
    (case l__law_contract => k_is)
    (case c__law_contract => k_is)
    (case k__law_contract => k_is)
    (case a__law_drawn => k_is)
    (case l__law_drawn => k_is)
    (case c__law_drawn => k_is)
    (case k__law_drawn => k_is)
    (case a__law_value => k_is)
    (case l__law_value => k_is)
    (case c__law_value => k_is)
    (case k__law_value => k_is)
    (case a__law_alike => k_is)
    (case l__law_alike => k_is)
    (case c__law_alike => k_is)
    (case k__law_alike => k_is)
    (case a__law_dressed => k_is)
    (case l__law_dressed => k_is)
    (case c__law_dressed => k_is)
    (case k__law_dressed => k_is)
    (case a__law_short_number => k_is)
    (case l__law_short_number => k_is)
    (case c__law_short_number => k_is)
    (case k__law_short_number => k_is)
    (case a__law_sure => k_is)
    (case l__law_sure => k_is)
    (case c__law_sure => k_is)
    (case k__law_sure => k_is)
    (case a__law_short_asked => k_is)
    (case l__law_short_asked => k_is)
    (case c__law_short_asked => k_is)
    (case k__law_short_asked => k_is)
    (case a__law_short => k_is)
    (case l__law_short => k_is)
    (case c__law_short => k_is)
    (case k__law_short => k_is)
    (case a_law => k_is)
    (case l_law => k_is)
    (case c_law => k_is)
    (case k_law => k_is)
    (case g_JOINS => k_is)
    (case w_JOINS => k_is)
    (case g_NONE => k_is)
    (case w_NONE => k_is)
    (case g_MOST_HOURS => k_is)
    (case g_GREATEST => k_is)
    (case z_min => k_is)
    (case z_int => k_is)
    (case z_range => k_is)
    (case z_isinstance => k_is)
    (case z_bool => k_is)
    (case z_str => k_is)
    (case z_dict => k_is)
    (case z_all => k_is)
    (case z_max => k_is)
    (case z_len => k_is)
    (case z_tuple => k_is)
    (case z_list => k_is)
    (case z_abs => k_is)
    (case z_sorted => k_is)
#print axioms PySem.Challenge.cw_contractbook_k19_shorter_as_told_holds
