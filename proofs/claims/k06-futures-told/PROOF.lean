import PyProof.Rows.All
import Wide.All
import OpenK.AllK
import Wide.FinOn
import HandS.ForMost
import HandS.Wide
import HandS.IsInst
import KE.KeyNested
import HandS.TupAny
import HandS.DictComp
import HandS.Conv
import HandS.Deep
import HandS.FStr
import PyProof.StrBlock2
import HandS.More
import HandS.Text
import HandS.RaiseMore
import PyProof.FitsReplace
import KE.KSortTup
import HandS.Sort
import HandS.SortOrd
import HandS.SortRule
import HandS.Style
import HandS.DeepEq
import HandS.Flow
import HandS.ListEq
import PyProof.NeKinds
import HandS.Exc
import HandS.ExcOwn
import HandS.ExcIs
import HandS.WordsExc
import HandS.Finally
import KE.KEqNest
import PyProof.DictRoadsH
import PyProof.Rows.TupTab
import HandS.Zip
import PySem.Challenge.RW_contractbook_k06_futures_told
set_option Elab.async false
set_option linter.all false
set_option maxRecDepth 100000
set_option maxHeartbeats 0
/-! The layer of pure data over the hand layer: tuples are values, the memory holds lists, dicts, objects. -/
namespace Mm
open PySem L2

/-- a datum: a tuple is a value -/
inductive D where
  | non | bl (b : Bool) | int (i : Int) | str (x : Str) | tup (ds : List D) | ref (a : Addr) | ty (n : String)

/-- a tuple's place: tracked; a written one of one or five items -/
def TupAt (K : PySem.W.Frag) (H : Hp) (a : Addr) (xs : List V) (n : Nat) : Prop := H a = some (.tup xs) ∨ ((n = 1 ∨ n = 5) ∧ SqT K H a xs)
mutual
def Rep (K : PySem.W.Frag) (H : Hp) : D → V → Prop
  | .non, v => v = .non
  | .bl b, v => v = .bl b
  | .int i, v => v = .int i
  | .str x, v => v = .str x
  | .tup ds, v => ∃ a xs, v = .ref a ∧ TupAt K H a xs ds.length ∧ Reps K H ds xs
  | .ref a, v => v = .ref a
  | .ty n, v => v = .ty n
def Reps (K : PySem.W.Frag) (H : Hp) : List D → List V → Prop
  | [], xs => xs = []
  | d :: ds, xs => ∃ x r, xs = x :: r ∧ Rep K H d x ∧ Reps K H ds r
end

mutual
/-- a key of a dict of nested keys, as a datum -/
def nkD : NestedKey → D
  | .none => .non
  | .num i => .int i
  | .text x => .str x
  | .tup ks => .tup (nkDs ks)
def nkDs : List NestedKey → List D
  | [] => []
  | k :: ks => nkD k :: nkDs ks
end
/-- a dict of nested keys at s: its one object -/
def NDφ (w : World) (s : Addr) (xs : List (NestedKey × Addr × V)) : Heap → Prop := fun h => xs.length ≤ sizeLine ∧ (s == sysModules) = false ∧
  ∃ ys : List (NestedKey × Addr × Value), Paired (fun p q => p.1 = q.1 ∧ p.2.1 = q.2.1 ∧ RelV p.2.2 q.2.2) xs ys ∧
    ∃ o es ep, h.get? s = some o ∧ o.ExactDict ∧ o.data = .dict es ep ∧ es.toList = ys.map (fun y => (⟨y.1.hash w, .ref y.2.1, y.2.2⟩ : DictEntry)) ∧ (ys.map (·.1)).Nodup
/-- what stands at an address of the memory; dN: a dict of nested keys, its own address told; frz: locked -/
inductive O where
  | lst (ds : List D) | dK (kvs : List (Key × D)) | dT (kvs : List (List Key × D)) | dN (w : World) (s : Addr) (kvs : List (NestedKey × D)) | ins (C : Addr) (fs : List (Str × D)) | frz (o : O)
abbrev Mem := Addr → Option O
def mput (m : Mem) (a : Addr) (o : O) : Mem := fun b => if b = a then some o else m b
theorem mput_same {m : Mem} {a : Addr} {o : O} : mput m a o a = some o := by unfold mput; rw [if_pos rfl]
theorem mput_ne {m : Mem} {a b : Addr} {o : O} (h : b ≠ a) : mput m a o b = m b := by unfold mput; rw [if_neg h]
theorem mput_mput {m : Mem} {a : Addr} {o u : O} : mput (mput m a o) a u = mput m a u := by funext b; unfold mput; split <;> rfl
theorem mput_self {m : Mem} {a : Addr} {o : O} (h : m a = some o) : mput m a o = m := by
  funext b; unfold mput; split
  · rename_i e; rw [e, h]
  · rfl
theorem mput_comm {m : Mem} {a b : Addr} {o u : O} (h : a ≠ b) : mput (mput m a o) b u = mput (mput m b u) a o := by
  funext c; unfold mput; split <;> split <;> try rfl
  rename_i e1 e2; exact absurd (e2.symm.trans e1) h
theorem mput_new {m : Mem} {p a : Addr} {o u : O} (hp : m p = none) (h : m a = some u) : mput m p o a = some u := by
  rw [mput_ne]; exact h
  rintro rfl; rw [hp] at h; cases h
theorem ne_new {m : Mem} {p a : Addr} {u : O} (hp : m p = none) (h : m a = some u) : a ≠ p := by rintro rfl; rw [hp] at h; cases h

def KVs (K : PySem.W.Frag) (H : Hp) {κ : Type} : List (κ × D) → List (κ × V) → Prop := Paired fun p q => p.1 = q.1 ∧ Rep K H p.2 q.2
def RepO (K : PySem.W.Frag) (H : Hp) : O → HO → Prop
  | .lst ds, u => ∃ xs, u = .lst xs ∧ Reps K H ds xs
  | .dK kvs, u => ∃ xs, u = .dK xs ∧ KVs K H kvs xs
  | .dT kvs, u => ∃ xs, u = .dT xs ∧ KVs K H kvs xs
  | .dN w s kvs, u => ∃ xs : List (NestedKey × Addr × V), u = .ext (NDφ w s xs) ∧ Paired (fun p q => p.1 = q.1 ∧ p.1.depth ≤ 8 ∧ Rep K H (nkD p.1) (.ref q.2.1) ∧ Rep K H p.2 q.2.2) kvs xs
  | .ins C fs, u => ∃ dx xs, u = .ins C dx xs ∧ KVs K H fs xs
  | .frz o, u => ∃ ob v, u = .frz ob v ∧ RepO K H o v
def RM (K : PySem.W.Frag) (H : Hp) (m : Mem) : Prop := ∀ a o, m a = some o → ∃ u, H a = some u ∧ RepO K H o u
/-- no object that may be written stands there -/
def Nm (m : Mem) (a : Addr) : Prop := m a = none ∨ ∃ o, m a = some (.frz o)
/-- from (m, H) to (m', H') all that is no object of m's stays -/
def Step (m : Mem) (H : Hp) (m' : Mem) (H' : Hp) : Prop := ∀ a u, H a = some u → Nm m a → H' a = some u ∧ Nm m' a
def Sub (m m' : Mem) : Prop := ∀ a o, m a = some o → m' a = some o

section
variable {K : PySem.W.Frag} {H H' H1 : Hp} {m m' m1 : Mem}
theorem Step.refl : Step m H m H := fun _ _ h n => ⟨h, n⟩
theorem Step.trans (a : Step m H m1 H1) (b : Step m1 H1 m' H') : Step m H m' H' := fun x u h n => by
  obtain ⟨h1, n1⟩ := a x u h n
  exact b x u h1 n1
theorem Sub.refl : Sub m m := fun _ _ h => h
theorem Sub.trans (a : Sub m m1) (b : Sub m1 m') : Sub m m' := fun x o h => b x o (a x o h)
theorem Sub.nm (s : Sub m m') {a : Addr} (n : Nm m' a) : Nm m a := by
  cases e : m a with
  | none => exact .inl e
  | some o =>
    rcases n with n | ⟨o', n⟩
    · rw [s a o e] at n; cases n
    · rw [s a o e] at n; cases n; exact .inr ⟨_, e⟩
theorem RM.sub (r : RM K H m') (s : Sub m m') : RM K H m := fun a o h => r a o (s a o h)
theorem Step.sub (a : Step m H m' H') (s : Sub m1 m') : Step m H m1 H' := fun x u h n => by
  obtain ⟨h1, n1⟩ := a x u h n
  exact ⟨h1, s.nm n1⟩
theorem RM.out (r : RM K H m) {p : Addr} (h : H p = none) : m p = none := by
  cases e : m p with
  | none => rfl
  | some o => obtain ⟨u, h1, _⟩ := r p o e; rw [h] at h1; cases h1
theorem RM.nm_tup (r : RM K H m) {a : Addr} {xs : List V} (h : H a = some (.tup xs)) : Nm m a := by
  cases e : m a with
  | none => exact .inl e
  | some o =>
    obtain ⟨u, h1, h2⟩ := r a o e
    rw [h] at h1; cases h1
    cases o with
    | lst ds => obtain ⟨xs, z, _⟩ := h2; cases z
    | dK ds => obtain ⟨xs, z, _⟩ := h2; cases z
    | dT ds => obtain ⟨xs, z, _⟩ := h2; cases z
    | dN w s ds => obtain ⟨xs, z, _⟩ := h2; cases z
    | ins C ds => obtain ⟨dx, xs, z, _⟩ := h2; cases z
    | frz o => exact .inr ⟨_, e⟩
theorem RM.nm_frz (r : RM K H m) {a : Addr} {ob : Obj} {v : HO} (h : H a = some (.frz ob v)) : Nm m a := by
  cases e : m a with
  | none => exact .inl e
  | some o =>
    obtain ⟨u, h1, h2⟩ := r a o e
    rw [h] at h1; cases h1
    cases o with
    | lst ds => obtain ⟨xs, z, _⟩ := h2; cases z
    | dK ds => obtain ⟨xs, z, _⟩ := h2; cases z
    | dT ds => obtain ⟨xs, z, _⟩ := h2; cases z
    | dN w s ds => obtain ⟨xs, z, _⟩ := h2; cases z
    | ins C ds => obtain ⟨dx, xs, z, _⟩ := h2; cases z
    | frz o => exact .inr ⟨_, e⟩
/-- tuples stay -/
def TupS (K : PySem.W.Frag) (H H' : Hp) : Prop := ∀ a xs n, TupAt K H a xs n → TupAt K H' a xs n
theorem TupAt.sq {a : Addr} {xs : List V} {n : Nat} (h : TupAt K H a xs n) : SqT K H a xs := h.elim (fun z => .inl (.inl z)) fun z => z.2
theorem TupAt.of {a : Addr} {xs : List V} {n : Nat} (h : H a = some (.tup xs)) : TupAt K H a xs n := .inl h
theorem Step.tups (r : RM K H m) (s : Step m H m' H') : TupS K H H' := fun a xs n h => by
  rcases h with h | ⟨z, h⟩
  · exact .inl (s a _ h (r.nm_tup h)).1
  refine .inr ⟨z, ?_⟩
  rcases h with (h | ⟨ob, h⟩) | h
  · exact .inl (.inl (s a _ h (r.nm_tup h)).1)
  · exact .inl (.inr ⟨ob, (s a _ h (r.nm_frz h)).1⟩)
  · exact .inr h
mutual
theorem Rep.stay (t : TupS K H H') : ∀ {d : D} {v : V}, Rep K H d v → Rep K H' d v
  | .non, _, h => by unfold Rep at h ⊢; exact h
  | .bl _, _, h => by unfold Rep at h ⊢; exact h
  | .int _, _, h => by unfold Rep at h ⊢; exact h
  | .str _, _, h => by unfold Rep at h ⊢; exact h
  | .ref _, _, h => by unfold Rep at h ⊢; exact h
  | .ty _, _, h => by unfold Rep at h ⊢; exact h
  | .tup ds, _, h => by
    unfold Rep at h ⊢
    obtain ⟨a, xs, e, s, r⟩ := h
    exact ⟨a, xs, e, t a xs _ s, Reps.stay t r⟩
theorem Reps.stay (t : TupS K H H') : ∀ {ds : List D} {vs : List V}, Reps K H ds vs → Reps K H' ds vs
  | [], _, h => by unfold Reps at h ⊢; exact h
  | d :: ds, _, h => by
    unfold Reps at h ⊢
    obtain ⟨x, r, e, h1, h2⟩ := h
    exact ⟨x, r, e, Rep.stay t h1, Reps.stay t h2⟩
end
theorem KVs.stay (t : TupS K H H') {κ : Type} : ∀ {a : List (κ × D)} {b : List (κ × V)}, KVs K H a b → KVs K H' a b
  | _, _, .nil => .nil
  | _, _, .cons h r => .cons ⟨h.1, h.2.stay t⟩ (KVs.stay t r)
theorem KNs.stay (t : TupS K H H') : ∀ {a : List (NestedKey × D)} {b : List (NestedKey × Addr × V)}, Paired (fun p q => p.1 = q.1 ∧ p.1.depth ≤ 8 ∧ Rep K H (nkD p.1) (.ref q.2.1) ∧ Rep K H p.2 q.2.2) a b → Paired (fun p q => p.1 = q.1 ∧ p.1.depth ≤ 8 ∧ Rep K H' (nkD p.1) (.ref q.2.1) ∧ Rep K H' p.2 q.2.2) a b
  | _, _, .nil => .nil
  | _, _, .cons h r => .cons ⟨h.1, h.2.1, h.2.2.1.stay t, h.2.2.2.stay t⟩ (KNs.stay t r)
theorem RepO.stay (t : TupS K H H') : ∀ {o : O} {u : HO}, RepO K H o u → RepO K H' o u
  | .lst _, _, h => by obtain ⟨xs, e, r⟩ := h; exact ⟨xs, e, r.stay t⟩
  | .dK _, _, h => by obtain ⟨xs, e, r⟩ := h; exact ⟨xs, e, r.stay t⟩
  | .dT _, _, h => by obtain ⟨xs, e, r⟩ := h; exact ⟨xs, e, r.stay t⟩
  | .dN _ _ _, _, h => by obtain ⟨xs, e, r⟩ := h; exact ⟨xs, e, KNs.stay t r⟩
  | .ins _ _, _, h => by obtain ⟨dx, xs, e, r⟩ := h; exact ⟨dx, xs, e, r.stay t⟩
  | .frz _, _, h => by obtain ⟨ob, v, e, r⟩ := h; exact ⟨ob, v, e, r.stay t⟩

/-! ### representation, by forms -/
theorem Rep.bl_iff {b : Bool} {v : V} : Rep K H (.bl b) v ↔ v = .bl b := by unfold Rep; exact Iff.rfl
theorem Rep.int_iff {b : Int} {v : V} : Rep K H (.int b) v ↔ v = .int b := by unfold Rep; exact Iff.rfl
theorem Rep.str_iff {b : Str} {v : V} : Rep K H (.str b) v ↔ v = .str b := by unfold Rep; exact Iff.rfl
theorem Rep.non_iff {v : V} : Rep K H .non v ↔ v = .non := by unfold Rep; exact Iff.rfl
theorem Rep.ref_iff {b : Addr} {v : V} : Rep K H (.ref b) v ↔ v = .ref b := by unfold Rep; exact Iff.rfl
theorem Rep.ty_iff {b : String} {v : V} : Rep K H (.ty b) v ↔ v = .ty b := by unfold Rep; exact Iff.rfl
theorem Rep.tup_iff {ds : List D} {v : V} : Rep K H (.tup ds) v ↔ ∃ a xs, v = .ref a ∧ TupAt K H a xs ds.length ∧ Reps K H ds xs := by unfold Rep; exact Iff.rfl
theorem Rep.bl {b : Bool} : Rep K H (.bl b) (.bl b) := Rep.bl_iff.mpr rfl
theorem Rep.int {b : Int} : Rep K H (.int b) (.int b) := Rep.int_iff.mpr rfl
theorem Rep.str {b : Str} : Rep K H (.str b) (.str b) := Rep.str_iff.mpr rfl
theorem Rep.non : Rep K H .non .non := Rep.non_iff.mpr rfl
theorem Rep.ref {b : Addr} : Rep K H (.ref b) (.ref b) := Rep.ref_iff.mpr rfl
theorem Rep.ty {b : String} : Rep K H (.ty b) (.ty b) := Rep.ty_iff.mpr rfl
theorem Reps.nil_iff {vs : List V} : Reps K H [] vs ↔ vs = [] := by unfold Reps; exact Iff.rfl
theorem Reps.cons_iff {d : D} {ds : List D} {vs : List V} : Reps K H (d :: ds) vs ↔ ∃ x r, vs = x :: r ∧ Rep K H d x ∧ Reps K H ds r := by
  conv => lhs; unfold Reps
theorem Reps.nil : Reps K H [] [] := Reps.nil_iff.mpr rfl
theorem Reps.cons {d : D} {ds : List D} {v : V} {vs : List V} (h : Rep K H d v) (r : Reps K H ds vs) : Reps K H (d :: ds) (v :: vs) := Reps.cons_iff.mpr ⟨v, vs, rfl, h, r⟩
theorem Reps.length : ∀ {ds : List D} {vs : List V}, Reps K H ds vs → ds.length = vs.length
  | [], _, h => by rw [Reps.nil_iff.mp h]; rfl
  | d :: ds, _, h => by
    obtain ⟨x, r, e, _, h2⟩ := Reps.cons_iff.mp h
    subst e
    simp [Reps.length h2]
theorem Reps.get : ∀ {ds : List D} {vs : List V} {i : Nat} {d : D}, Reps K H ds vs → ds[i]? = some d → ∃ v, vs[i]? = some v ∧ Rep K H d v
  | [], _, _, _, _, e => by simp at e
  | x :: ds, _, i, d, h, e => by
    obtain ⟨v, r, e2, h1, h2⟩ := Reps.cons_iff.mp h
    subst e2
    cases i with
    | zero =>
      have : x = d := by simpa using e
      subst this; exact ⟨v, by simp, h1⟩
    | succ i =>
      obtain ⟨v', a, b⟩ := Reps.get (i := i) (d := d) h2 (by simpa using e)
      exact ⟨v', by simpa using a, b⟩
theorem Reps.append : ∀ {ds es : List D} {vs ws : List V}, Reps K H ds vs → Reps K H es ws → Reps K H (ds ++ es) (vs ++ ws)
  | [], _, _, _, h, k => by rw [Reps.nil_iff.mp h]; exact k
  | x :: ds, es, _, ws, h, k => by
    obtain ⟨v, r, e2, h1, h2⟩ := Reps.cons_iff.mp h
    subst e2
    exact Reps.cons h1 (Reps.append h2 k)
theorem Reps.take : ∀ {ds : List D} {vs : List V} (n : Nat), Reps K H ds vs → Reps K H (ds.take n) (vs.take n)
  | [], _, _, h => by rw [Reps.nil_iff.mp h]; simp; exact Reps.nil
  | x :: ds, _, n, h => by
    obtain ⟨v, r, e2, h1, h2⟩ := Reps.cons_iff.mp h
    subst e2
    cases n with
    | zero => exact Reps.nil
    | succ n => exact Reps.cons h1 (Reps.take n h2)
theorem Reps.drop : ∀ {ds : List D} {vs : List V} (n : Nat), Reps K H ds vs → Reps K H (ds.drop n) (vs.drop n)
  | [], _, _, h => by rw [Reps.nil_iff.mp h]; simp; exact Reps.nil
  | x :: ds, _, n, h => by
    obtain ⟨v, r, e2, h1, h2⟩ := Reps.cons_iff.mp h
    subst e2
    cases n with
    | zero => exact Reps.cons h1 h2
    | succ n => exact Reps.drop n h2
theorem Reps.set {d : D} {v : V} (hd : Rep K H d v) : ∀ {ds : List D} {vs : List V} (n : Nat), Reps K H ds vs → Reps K H (ds.set n d) (vs.set n v)
  | [], _, _, h => by rw [Reps.nil_iff.mp h]; simp; exact Reps.nil
  | x :: ds, _, n, h => by
    obtain ⟨v, r, e2, h1, h2⟩ := Reps.cons_iff.mp h
    subst e2
    cases n with
    | zero => exact Reps.cons hd h2
    | succ n => exact Reps.cons h1 (Reps.set hd n h2)
theorem Reps.ints (ns : List Int) : Reps K H (ns.map .int) (ns.map .int) := by
  induction ns with
  | nil => exact Reps.nil
  | cons n r ih => exact Reps.cons Rep.int ih

/-! ### the memory changes -/
theorem Step.new (r : RM K H m) {p : Addr} {o : O} {u : HO} (h : H p = none) : Step m H (mput m p o) (upd H p u) := fun a v e n => by
  have ne : a ≠ p := by rintro rfl; rw [h] at e; cases e
  refine ⟨by rw [upd_ne ne]; exact e, ?_⟩
  rcases n with n | ⟨o', n⟩
  · exact .inl (by rw [mput_ne ne]; exact n)
  · exact .inr ⟨o', by rw [mput_ne ne]; exact n⟩
theorem Step.hid (r : RM K H m) {p : Addr} {u : HO} (h : H p = none) : Step m H m (upd H p u) := fun a v e n => by
  have ne : a ≠ p := by rintro rfl; rw [h] at e; cases e
  exact ⟨by rw [upd_ne ne]; exact e, n⟩
theorem RM.hid (r : RM K H m) {p : Addr} {u : HO} (h : H p = none) : RM K (upd H p u) m := fun a o e => by
  obtain ⟨v, h1, h2⟩ := r a o e
  have ne : a ≠ p := by rintro rfl; rw [h] at h1; cases h1
  exact ⟨v, by rw [upd_ne ne]; exact h1, h2.stay ((Step.hid (u := u) r h).tups r)⟩
theorem RM.new (r : RM K H m) {p : Addr} {o : O} {u : HO} (h : H p = none) (x : RepO K H o u) : RM K (upd H p u) (mput m p o) := fun a o' e => by
  have t := (Step.hid (u := u) r h).tups r
  by_cases ne : a = p
  · subst ne
    rw [mput_same] at e; cases e
    exact ⟨u, upd_same, x.stay t⟩
  · rw [mput_ne ne] at e
    obtain ⟨v, h1, h2⟩ := r a o' e
    exact ⟨v, by rw [upd_ne ne]; exact h1, h2.stay t⟩
def Wr : O → Prop
  | .frz _ => False
  | _ => True
theorem nm_wr {a : Addr} {o : O} (h : m a = some o) (w : Wr o) : ¬ Nm m a := fun n => by
  rcases n with n | ⟨o', n⟩
  · rw [h] at n; cases n
  · rw [h] at n; cases n; exact w
theorem Step.put (r : RM K H m) {p : Addr} {o o0 : O} {u : HO} (h : m p = some o0) (w : Wr o0) : Step m H (mput m p o) (upd H p u) := fun a v e n => by
  have ne : a ≠ p := by rintro rfl; exact nm_wr h w n
  refine ⟨by rw [upd_ne ne]; exact e, ?_⟩
  rcases n with n | ⟨o', n⟩
  · exact .inl (by rw [mput_ne ne]; exact n)
  · exact .inr ⟨o', by rw [mput_ne ne]; exact n⟩
theorem RM.put (r : RM K H m) {p : Addr} {o o0 : O} {u : HO} (h : m p = some o0) (w : Wr o0) (x : RepO K H o u) : RM K (upd H p u) (mput m p o) := fun a o' e => by
  have t := (Step.put (u := u) (o := o) r h w).tups r
  by_cases ne : a = p
  · subst ne
    rw [mput_same] at e; cases e
    exact ⟨u, upd_same, x.stay t⟩
  · rw [mput_ne ne] at e
    obtain ⟨v, h1, h2⟩ := r a o' e
    exact ⟨v, by rw [upd_ne ne]; exact h1, h2.stay t⟩
end

/-! ### the locals -/
abbrev StM := List (Option D)
def RepS (K : PySem.W.Frag) (H : Hp) : Option D → Option V → Prop
  | some d, some v => Rep K H d v
  | none, _ => True
  | _, _ => False
abbrev Ss (K : PySem.W.Frag) (H : Hp) : StM → St → Prop := Paired (RepS K H)
section
variable {K : PySem.W.Frag} {H H' : Hp} {m m' : Mem}
theorem Ss.stay (t : TupS K H H') : ∀ {ρ : StM} {σ : St}, Ss K H ρ σ → Ss K H' ρ σ
  | _, _, .nil => .nil
  | _, _, .cons (a := a) (b := b) h r => .cons (by
      cases a with
      | none => trivial
      | some d =>
        cases b with
        | none => exact h
        | some v => exact Rep.stay t h) (Ss.stay t r)
theorem Ss.get : ∀ {ρ : StM} {σ : St} {i : Nat} {d : D}, Ss K H ρ σ → ρ[i]? = some (some d) → ∃ v, σ[i]? = some (some v) ∧ Rep K H d v
  | _, _, _, _, .nil, e => by simp at e
  | _, _, i, d, .cons (a := a) (b := b) h r, e => by
    cases i with
    | zero =>
      have e' : a = some d := by simpa using e
      subst e'
      cases b with
      | none => exact h.elim
      | some v => exact ⟨v, by simp, h⟩
    | succ i =>
      obtain ⟨v, h1, h2⟩ := Ss.get (i := i) (d := d) r (by simpa using e)
      exact ⟨v, by simpa using h1, h2⟩
theorem Ss.set {d : D} {v : V} (hd : Rep K H d v) : ∀ {ρ : StM} {σ : St} (i : Nat), Ss K H ρ σ → Ss K H (ρ.set i (some d)) (σ.set i (some v))
  | _, _, _, .nil => .nil
  | _, _, 0, .cons h r => .cons hd r
  | _, _, i + 1, .cons h r => .cons h (Ss.set hd i r)
theorem Ss.setN {o : Option V} : ∀ {ρ : StM} {σ : St} (i : Nat), Ss K H ρ σ → Ss K H (ρ.set i none) (σ.set i o)
  | _, _, _, .nil => .nil
  | _, _, 0, .cons h r => .cons trivial r
  | _, _, i + 1, .cons h r => .cons h (Ss.setN i r)
def wipeM (ρ : StM) : List Nat → StM
  | [] => ρ
  | i :: r => (wipeM ρ r).set i none
theorem Ss.wipe {ρ : StM} {σ : St} (h : Ss K H ρ σ) : ∀ vs : List Nat, Ss K H (wipeM ρ vs) (wipe σ vs)
  | [] => h
  | i :: r => Ss.setN i (Ss.wipe h r)
end
end Mm
namespace Mm
open PySem L2

/-- what is kept through a def: closed under steps -/
structure Bs where
  P : Mem → Hp → Prop
  cl : ∀ m H m' H', P m H → Step m H m' H' → P m' H'
abbrev KM := D → Mem → Prop
abbrev TEm := StM → Mem → KM → Prop
abbrev TTm := StM → Mem → (Bool → Mem → Prop) → Prop
abbrev TAm := StM → Mem → (List D → Mem → Prop) → Prop
structure EndsM where
  nx : StM → Mem → Prop
  rt : KM
  bk : StM → Mem → Prop := fun _ _ => False
  ct : StM → Mem → Prop := fun _ _ => False
abbrev TSm := EndsM → StM → Mem → Prop
/-- the address of an object, the items of a tuple, ints of an argument list -/
def refAt (x : D) (k : Addr → Prop) : Prop := match x with
  | .ref a => k a
  | _ => False
def tupAt (x : D) (k : List D → Prop) : Prop := match x with
  | .tup ds => k ds
  | _ => False
def twoAt (ds : List D) (k : D → D → Prop) : Prop := match ds with
  | [x, y] => k x y
  | _ => False
def int1At (ds : List D) (k : Int → Prop) : Prop := match ds with
  | [.int i] => k i
  | _ => False
def int2At (ds : List D) (k : Int → Int → Prop) : Prop := match ds with
  | [.int i, .int j] => k i j
  | _ => False
abbrev TGm := D → StM → Mem → (StM → Mem → Prop) → Prop
abbrev TGsm := List D → StM → Mem → (StM → Mem → Prop) → Prop

structure At (K : PySem.W.Frag) (B : Bs) (σ : St) (H : Hp) (ρ : StM) (m : Mem) : Prop where
  s : Ss K H ρ σ
  r : RM K H m
  b : B.P m H
theorem At.step {K : PySem.W.Frag} {B : Bs} {σ : St} {H H' : Hp} {ρ : StM} {m m' : Mem} (a : At K B σ H ρ m) (r : RM K H' m') (t : Step m H m' H') : At K B σ H' ρ m' :=
  ⟨a.s.stay (t.tups a.r), r, B.cl _ _ _ _ a.b t⟩
theorem At.step' {K : PySem.W.Frag} {B : Bs} {σ σ' : St} {H H' : Hp} {ρ ρ' : StM} {m m' : Mem} (a : At K B σ H ρ m) (r : RM K H' m') (t : Step m H m' H') (s : Ss K H' ρ' σ') : At K B σ' H' ρ' m' :=
  ⟨s, r, B.cl _ _ _ _ a.b t⟩
section
variable (K : PySem.W.Frag) (B : Bs)
def uE (p : TEm) : TE := fun σ H Q => ∃ ρ m Qm, At K B σ H ρ m ∧ p ρ m Qm ∧ ∀ d m' v H', Qm d m' → RM K H' m' → Step m H m' H' → Rep K H' d v → Q v H'
def uT (p : TTm) : TT := fun σ H Q => ∃ ρ m Qm, At K B σ H ρ m ∧ p ρ m Qm ∧ ∀ d m' H', Qm d m' → RM K H' m' → Step m H m' H' → Q d H'
def uA (p : TAm) : TA := fun σ H Q => ∃ ρ m Qm, At K B σ H ρ m ∧ p ρ m Qm ∧ ∀ d m' v H', Qm d m' → RM K H' m' → Step m H m' H' → Reps K H' d v → Q v H'
def uN (σ : St → Hp → Prop) (m : Mem) (H : Hp) (n : StM → Mem → Prop) : Prop := ∀ ρ' m' σ' H', n ρ' m' → RM K H' m' → Step m H m' H' → Ss K H' ρ' σ' → σ σ' H'
def uS (p : TSm) : TS := fun D σ H => ∃ ρ m E, At K B σ H ρ m ∧ p E ρ m ∧ uN K D.nx m H E.nx ∧ (∀ d m' v H', E.rt d m' → RM K H' m' → Step m H m' H' → Rep K H' d v → D.rt v H') ∧ uN K D.bk m H E.bk ∧ uN K D.ct m H E.ct
def uG (g : TGm) : TG := fun v σ H Q => ∃ d ρ m Qm, Rep K H d v ∧ At K B σ H ρ m ∧ g d ρ m Qm ∧ uN K Q m H Qm
def uGs (g : TGsm) : TGs := fun v σ H Q => ∃ d ρ m Qm, Reps K H d v ∧ At K B σ H ρ m ∧ g d ρ m Qm ∧ uN K Q m H Qm
end
section
variable {X : Cx} {e : Expr} {st : Stmt} {es : List Expr} {sts : List Stmt}
theorem peImp {t t' : TE} (h : PE X e t) (i : ∀ σ H Q, t' σ H Q → t σ H Q) : PE X e t' := ⟨fun pins s σ H Q I q => h.run pins s σ H Q I (i _ _ _ q)⟩
theorem ptImp {t t' : TT} (h : PT X e t) (i : ∀ σ H Q, t' σ H Q → t σ H Q) : PT X e t' := ⟨fun pins s σ H Q I q => h.run pins s σ H Q I (i _ _ _ q)⟩
theorem pwImp {t t' : TT} (h : PW X e t) (i : ∀ σ H Q, t' σ H Q → t σ H Q) : PW X e t' := ⟨fun wh pins s σ H Q I q => h.run wh pins s σ H Q I (i _ _ _ q)⟩
theorem paImp {t t' : TA} (h : PA X es t) (i : ∀ σ H Q, t' σ H Q → t σ H Q) : PA X es t' := ⟨fun pos pins s σ H Q I q => h.run pos pins s σ H Q I (i _ _ _ q)⟩
theorem psImp {t t' : TS} (h : PS X st t) (i : ∀ D σ H, t' D σ H → t D σ H) : PS X st t' := ⟨fun pins s σ H D I q => h.run pins s σ H D I (i _ _ _ q)⟩
theorem pssImp {t t' : TS} (h : PSs X sts t) (i : ∀ D σ H, t' D σ H → t D σ H) : PSs X sts t' := ⟨fun pins s σ H D I q => h.run pins s σ H D I (i _ _ _ q)⟩
theorem pgImp {t t' : TG} (h : PG X e t) (i : ∀ v σ H Q, t' v σ H Q → t v σ H Q) : PG X e t' := ⟨fun pins s σ H v u Q I r q => h.run pins s σ H v u Q I r (i _ _ _ _ q)⟩
theorem pgsImp {t t' : TGs} (h : PGs X es t) (i : ∀ v σ H Q, t' v σ H Q → t v σ H Q) : PGs X es t' := ⟨fun pins s σ H v u Q I r q => h.run pins s σ H v u Q I r (i _ _ _ _ q)⟩
end
section
variable (X : Cx) (B : Bs)
def MX (e : Expr) (p : TEm) : Prop := PE X e (uE X.K B p)
def MT (e : Expr) (p : TTm) : Prop := PT X e (uT X.K B p)
def MW (e : Expr) (p : TTm) : Prop := PW X e (uT X.K B p)
def MA (es : List Expr) (p : TAm) : Prop := PA X es (uA X.K B p)
def MS (st : Stmt) (p : TSm) : Prop := PS X st (uS X.K B p)
def MSs (st : List Stmt) (p : TSm) : Prop := PSs X st (uS X.K B p)
def MG (e : Expr) (g : TGm) : Prop := PG X e (uG X.K B g)
def MGs (e : List Expr) (g : TGsm) : Prop := PGs X e (uGs X.K B g)
/-- an operator by values -/
abbrev R2m := D → D → Mem → KM → Prop
abbrev R1m := D → Mem → KM → Prop
abbrev RLm := List D → Mem → KM → Prop
def uR2 (K : PySem.W.Frag) (r : R2m) : R2 := fun v w H Q => ∃ x y m Qm, Rep K H x v ∧ Rep K H y w ∧ RM K H m ∧ r x y m Qm ∧ ∀ d m' v H', Qm d m' → RM K H' m' → Step m H m' H' → Rep K H' d v → Q v H'
def uRL (K : PySem.W.Frag) (r : RLm) : List V → Hp → VK → Prop := fun vs H Q => ∃ ds m Qm, Reps K H ds vs ∧ RM K H m ∧ r ds m Qm ∧ ∀ d m' v H', Qm d m' → RM K H' m' → Step m H m' H' → Rep K H' d v → Q v H'
def MOp (f : Value → Value → Sem Value) (r : R2m) : Prop := OpR X f (uR2 X.K r)
def MIx (r : R2m) : Prop := IxR X (uR2 X.K r)
def MCall (f : Value) (r : RLm) : Prop := CallR X f (uRL X.K r)
end
section
variable {X : Cx} {B : Bs} {e a b c : Expr} {es rest : List Expr} {pos : Pos} {pa pb pc : TEm} {ta tb tc : TTm} {la : TAm}
theorem opImp {f : Value → Value → Sem Value} {r r' : R2} (h : OpR X f r) (i : ∀ x y H Q, r' x y H Q → r x y H Q) : OpR X f r' := fun pins s σ H x y v u Q I r1 r2 q => h pins s σ H x y v u Q I r1 r2 (i _ _ _ _ q)
theorem ixImp {r r' : R2} (h : IxR X r) (i : ∀ x y H Q, r' x y H Q → r x y H Q) : IxR X r' := by
  intro value slice pins s σ H x y v u Q I r1 r2 q hs
  exact h value slice pins s σ H x y v u Q I r1 r2 (i _ _ _ _ q) hs
theorem callImp {f : Value} {r r' : List V → Hp → VK → Prop} (h : CallR X f r) (i : ∀ x H Q, r' x H Q → r x H Q) : CallR X f r' := fun pins s σ H xs us Q I r1 q => h pins s σ H xs us Q I r1 (i _ _ _ q)
/-- run a part, then go on -/
theorem uE.go {K : PySem.W.Frag} {p : TEm} {σ : St} {H : Hp} {ρ : StM} {m : Mem} {Qm : KM} {Q : VK} (A : At K B σ H ρ m) (q : p ρ m Qm) (k : ∀ d m' v H', Qm d m' → RM K H' m' → Step m H m' H' → Rep K H' d v → Q v H') : uE K B p σ H Q := ⟨ρ, m, Qm, A, q, k⟩

/-! ### constants, names -/
def wC (d : D) : TEm := fun _ m Q => Q d m
theorem mxC {v : V} {d : D} (h : PE X e (tC v)) (r : ∀ H, Rep X.K H d v) : MX X B e (wC d) := peImp h fun σ H Q ⟨ρ, m, Qm, A, q, k⟩ => k d m v H q A.r Step.refl (r H)
theorem mx_int {i j pos} : MX X B (.Constant (.int i) j pos) (wC (.int i)) := mxC pe_int fun _ => Rep.int
theorem mx_bl {i j pos} : MX X B (.Constant (.bool i) j pos) (wC (.bl i)) := mxC pe_bl fun _ => Rep.bl
theorem mx_non {j pos} : MX X B (.Constant .none j pos) (wC .non) := mxC pe_non fun _ => Rep.non
theorem mx_str {i j pos} : MX X B (.Constant (.str i) j pos) (wC (.str i)) := mxC pe_str fun _ => Rep.str
def wVar (i : Nat) : TEm := fun ρ m Q => ∃ d, ρ[i]? = some (some d) ∧ Q d m
theorem mx_var {i : Nat} (h : PE X e (tVar i)) : MX X B e (wVar i) := peImp h fun σ H Q ⟨ρ, m, Qm, A, ⟨d, e1, q⟩, k⟩ => by
  obtain ⟨v, e2, r⟩ := A.s.get e1
  exact ⟨v, e2, k d m v H q A.r Step.refl r⟩
/-- the name in slot i -/
theorem mv (i : Nat) {x : Str} {pos : Pos} (hN : X.N[i]? = some x := by rfl) (hv : Vis X.env.scope x := by first | exact Or.inl rfl | exact Or.inr (Or.inl rfl) | exact Or.inr (Or.inr rfl)) (hd : (x == ("__debug__" : Str)) = false := by decide)
    (hcd : (x == ("__classdict__" : Str)) = false := by decide) : MX X B (.Name x pos) (wVar i) := mx_var (pe_var hN hv hd hcd)
/-- a global name whose value is known -/
theorem mx_glob {x : Str} {v : V} {d : D} {u : Value} (hg : Gl X x) (hm : X.mg x = some u) (r : RelV v u) (rd : ∀ H, Rep X.K H d v) (hd : (x == ("__debug__" : Str)) = false := by decide) : MX X B (.Name x pos) (wC d) := mxC (pe_glob hg hm r hd) rd

/-! ### operators -/
def wBin (r : R2m) (pa pb : TEm) : TEm := fun ρ m Q => pa ρ m fun x m1 => pb ρ m1 fun y m2 => r x y m2 Q
theorem bin_go {K : PySem.W.Frag} {r : R2m} {r0 : R2} {σ : St} {H : Hp} {Q : VK} (ho : ∀ x y H Q, uR2 K r x y H Q → r0 x y H Q) (h : uE K B (wBin r pa pb) σ H Q) : tOp r0 (uE K B pa) (uE K B pb) σ H Q := by
  obtain ⟨ρ, m, Qm, A, q, k⟩ := h
  refine ⟨ρ, m, _, A, q, fun x m1 v H1 q1 r1 t1 x1 => ?_⟩
  refine ⟨ρ, m1, _, A.step r1 t1, q1, fun y m2 w H2 q2 r2 t2 x2 => ?_⟩
  exact ho _ _ _ _ ⟨x, y, m2, Qm, x1.stay (t2.tups r1), x2, r2, q2, fun d m' v H' q3 r3 t3 x3 => k d m' v H' q3 r3 (t1.trans (t2.trans t3)) x3⟩
theorem mx_op {op : Operator} {r : R2m} (ho : MOp X (binaryOp op) r) (ha : MX X B a pa) (hb : MX X B b pb) : MX X B (.BinOp a op b pos) (wBin r pa pb) :=
  peImp (pe_op ho ha hb) fun σ H Q h => bin_go (fun _ _ _ _ q => q) h
theorem mx_cmp {op : CmpOp} {r : R2m} (ho : MOp X (compareOp op) r) (ha : MX X B a pa) (hb : MX X B b pb) (hm : behindInMarks op b = false) : MX X B (.Compare a [op] [b] pos) (wBin r pa pb) :=
  peImp (pe_cmpR ho ha hb hm) fun σ H Q h => bin_go (fun _ _ _ _ q => q) h
def wTest (p : TEm) : TTm := fun ρ m Q => p ρ m fun d m' => ∃ k, d = .bl k ∧ Q k m'
theorem test_go {K : PySem.W.Frag} {p : TEm} {t : TE} {σ : St} {H : Hp} {Q : Bool → Hp → Prop} (ho : ∀ σ H Q, uE K B p σ H Q → t σ H Q) (h : uT K B (wTest p) σ H Q) : tTest t σ H Q := by
  obtain ⟨ρ, m, Qm, A, q, k⟩ := h
  refine ho _ _ _ ⟨ρ, m, _, A, q, fun d m1 v H1 q1 r1 t1 x1 => ?_⟩
  obtain ⟨b, e, q1⟩ := q1
  subst e
  exact ⟨b, Rep.bl_iff.mp x1, k b m1 H1 q1 r1 t1⟩
theorem mt_cmp {op : CmpOp} {r : R2m} (ho : MOp X (compareOp op) r) (ha : MX X B a pa) (hb : MX X B b pb) (hm : behindInMarks op b = false) : MT X B (.Compare a [op] [b] pos) (wTest (wBin r pa pb)) :=
  ptImp (pt_cmpR ho ha hb hm) fun σ H Q h => test_go (fun _ _ _ q => bin_go (fun _ _ _ _ q => q) q) h
/-- an expression that gives True or False, as a test -/
theorem mt_val {p : TEm} (h : MX X B e p) (he : ∀ whole, isTrue e X.env whole = (do let v ← whole; standAt e.pos; holding [v] (truthy v)) := by intro _; rfl) : MT X B e (wTest p) :=
  ptImp (pt_val h he) fun σ H Q h => test_go (fun _ _ _ q => q) h
def wChain (r r' : R2m) (pa pb pc : TEm) : TEm := fun ρ m Q => pa ρ m fun x m1 => pb ρ m1 fun y m2 => r x y m2 fun z m3 => ∃ k, z = .bl k ∧ if k = true then pc ρ m3 fun w m4 => r' y w m4 Q else Q (.bl false) m3
theorem chain_go {K : PySem.W.Frag} {r r' : R2m} {σ : St} {H : Hp} {Q : VK} (h : uE K B (wChain r r' pa pb pc) σ H Q) : tChain (uR2 K r) (uR2 K r') (uE K B pa) (uE K B pb) (uE K B pc) σ H Q := by
  obtain ⟨ρ, m, Qm, A, q, k⟩ := h
  refine ⟨ρ, m, _, A, q, fun x m1 v H1 q1 r1 t1 x1 => ?_⟩
  refine ⟨ρ, m1, _, A.step r1 t1, q1, fun y m2 w H2 q2 r2 t2 x2 => ?_⟩
  refine ⟨x, y, m2, _, x1.stay (t2.tups r1), x2, r2, q2, fun z m3 v3 H3 q3 r3 t3 x3 => ?_⟩
  obtain ⟨b, e, q3⟩ := q3
  subst e
  refine ⟨b, Rep.bl_iff.mp x3, ?_⟩
  have t13 := t1.trans (t2.trans t3)
  cases b with
  | false =>
    simp only [Bool.false_eq_true, if_false] at q3 ⊢
    exact k _ _ _ _ q3 r3 t13 Rep.bl
  | true =>
    simp only [if_true] at q3 ⊢
    refine ⟨ρ, m3, _, A.step r3 t13, q3, fun w m4 v4 H4 q4 r4 t4 x4 => ?_⟩
    exact ⟨y, w, m4, Qm, (x2.stay (t3.tups r2)).stay (t4.tups r3), x4, r4, q4, fun d m' v H' q5 r5 t5 x5 => k d m' v H' q5 r5 (t13.trans (t4.trans t5)) x5⟩
theorem mx_chain {op op' : CmpOp} {r r' : R2m} (ho : MOp X (compareOp op) r) (ho' : MOp X (compareOp op') r') (ha : MX X B a pa) (hb : MX X B b pb) (hc : MX X B c pc) (hm : lastMarks [op, op'] [b, c] = false := by with_unfolding_all rfl) : MX X B (.Compare a [op, op'] [b, c] pos) (wChain r r' pa pb pc) :=
  peImp (pe_chain ho ho' ha hb hc hm) fun σ H Q h => chain_go h
theorem mt_chain {op op' : CmpOp} {r r' : R2m} (ho : MOp X (compareOp op) r) (ho' : MOp X (compareOp op') r') (ha : MX X B a pa) (hb : MX X B b pb) (hc : MX X B c pc) (hm : lastMarks [op, op'] [b, c] = false := by with_unfolding_all rfl) : MT X B (.Compare a [op, op'] [b, c] pos) (wTest (wChain r r' pa pb pc)) :=
  ptImp (pt_chain ho ho' ha hb hc hm) fun σ H Q h => test_go (fun _ _ _ q => chain_go q) h
/-- from a rule of the hand layer -/
theorem mop_of {f : Value → Value → Sem Value} {r : R2m} {r0 : R2} (h : OpR X f r0) (i : ∀ x y v w H m Q Qm, Rep X.K H x v → Rep X.K H y w → RM X.K H m → r x y m Qm → (∀ d m' v H', Qm d m' → RM X.K H' m' → Step m H m' H' → Rep X.K H' d v → Q v H') → r0 v w H Q) : MOp X f r :=
  opImp h fun v w H Q ⟨x, y, m, Qm, hx, hy, r, q, k⟩ => i x y v w H m Q Qm hx hy r q k
def wI (C : Int → Int → Prop) (g : Int → Int → D) : R2m := fun x y m Q => match x, y with
  | .int i, .int j => C i j ∧ Q (g i j) m
  | _, _ => False
def wI0 (g : Int → Int → D) : R2m := fun x y m Q => match x, y with
  | .int i, .int j => Q (g i j) m
  | _, _ => False
theorem mopI {f : Value → Value → Sem Value} {C : Int → Int → Prop} {g : Int → Int → V} {gd : Int → Int → D} (h : OpR X f (rI C g)) (hg : ∀ i j H, Rep X.K H (gd i j) (g i j)) : MOp X f (wI C gd) := mop_of h fun x y v w H m Q Qm hx hy r q k => by
  unfold wI at q
  split at q
  · rw [Rep.int_iff.mp hx, Rep.int_iff.mp hy]
    exact ⟨_, _, rfl, rfl, q.1, k _ _ _ _ q.2 r Step.refl (hg _ _ _)⟩
  · exact q.elim
theorem mopI0 {f : Value → Value → Sem Value} {g : Int → Int → V} {gd : Int → Int → D} (h : OpR X f (rI0 g)) (hg : ∀ i j H, Rep X.K H (gd i j) (g i j)) : MOp X f (wI0 gd) := mop_of h fun x y v w H m Q Qm hx hy r q k => by
  unfold wI0 at q
  split at q
  · rw [Rep.int_iff.mp hx, Rep.int_iff.mp hy]
    exact ⟨_, _, rfl, rfl, k _ _ _ _ q r Step.refl (hg _ _ _)⟩
  · exact q.elim
theorem mo_add : MOp X (binaryOp .Add) (wI0 fun i j => .int (i + j)) := mopI0 op_add fun _ _ _ => Rep.int
theorem mo_sub : MOp X (binaryOp .Sub) (wI0 fun i j => .int (i - j)) := mopI0 op_sub fun _ _ _ => Rep.int
theorem mo_mul : MOp X (binaryOp .Mult) (wI CMul fun i j => .int (i * j)) := mopI op_mul fun _ _ _ => Rep.int
theorem mo_mulW : MOp X (binaryOp .Mult) (wI CMulW fun i j => .int (i * j)) := mopI op_mulW fun _ _ _ => Rep.int
theorem mo_mod : MOp X (binaryOp .Mod) (wI (fun _ j => 0 < j) fun i j => .int (i % j)) := mopI op_mod fun _ _ _ => Rep.int
theorem mo_div : MOp X (binaryOp .FloorDiv) (wI CDivW fun i j => .int (i / j)) := mopI op_fdivW fun _ _ _ => Rep.int
theorem mo_pow : MOp X (binaryOp .Pow) (wI CPow fun i j => .int (i ^ j.toNat)) := mopI op_pow fun _ _ _ => Rep.int
theorem mo_lt : MOp X (compareOp .Lt) (wI0 fun i j => .bl (decide (i < j))) := mopI0 op_lt fun _ _ _ => Rep.bl
theorem mo_le : MOp X (compareOp .LtE) (wI0 fun i j => .bl (decide (i ≤ j))) := mopI0 op_le fun _ _ _ => Rep.bl
theorem mo_gt : MOp X (compareOp .Gt) (wI0 fun i j => .bl (decide (j < i))) := mopI0 op_gt fun _ _ _ => Rep.bl
theorem mo_ge : MOp X (compareOp .GtE) (wI0 fun i j => .bl (decide (j ≤ i))) := mopI0 op_ge fun _ _ _ => Rep.bl
/-- == of two flat things -/
def scD : D → D → Option Bool
  | .int i, .int j => some (decide (i = j))
  | .str i, .str j => some (decide (i = j))
  | .bl i, .bl j => some (decide (i = j))
  | .non, .non => some true
  | _, _ => none
def wEq : R2m := fun x y m Q => match scD x y with
  | some b => Q (.bl b) m
  | none => False
def wNe : R2m := fun x y m Q => match scD x y with
  | some b => Q (.bl (!b)) m
  | none => False
theorem scD_of {K : PySem.W.Frag} {H : Hp} {x y : D} {v w : V} {b : Bool} (hx : Rep K H x v) (hy : Rep K H y w) (h : scD x y = some b) : scal v w = true ∧ decide (v = w) = b := by
  unfold scD at h
  split at h
  · rw [Rep.int_iff.mp hx, Rep.int_iff.mp hy]; cases h; exact ⟨rfl, by rw [decide_eq_decide]; exact ⟨fun e => by injection e, fun e => by rw [e]⟩⟩
  · rw [Rep.str_iff.mp hx, Rep.str_iff.mp hy]; cases h; exact ⟨rfl, by rw [decide_eq_decide]; exact ⟨fun e => by injection e, fun e => by rw [e]⟩⟩
  · rw [Rep.bl_iff.mp hx, Rep.bl_iff.mp hy]; cases h; exact ⟨rfl, by rw [decide_eq_decide]; exact ⟨fun e => by injection e, fun e => by rw [e]⟩⟩
  · rw [Rep.non_iff.mp hx, Rep.non_iff.mp hy]; cases h; exact ⟨rfl, by simp⟩
  · cases h
theorem mo_eq : MOp X (compareOp .Eq) wEq := mop_of op_eq fun x y v w H m Q Qm hx hy r q k => by
  unfold wEq at q
  split at q
  · rename_i b e
    obtain ⟨h1, h2⟩ := scD_of hx hy e
    exact ⟨h1, by rw [h2]; exact k _ _ _ _ q r Step.refl Rep.bl⟩
  · exact q.elim
theorem mo_ne : MOp X (compareOp .NotEq) wNe := mop_of op_ne fun x y v w H m Q Qm hx hy r q k => by
  unfold wNe at q
  split at q
  · rename_i b e
    obtain ⟨h1, h2⟩ := scD_of hx hy e
    exact ⟨h1, by rw [h2]; exact k _ _ _ _ q r Step.refl Rep.bl⟩
  · exact q.elim
def wAddS : R2m := fun x y m Q => match x, y with
  | .str i, .str j => i.length + j.length ≤ sizeLine ∧ Q (.str (i ++ j)) m
  | _, _ => False
theorem mo_addS : MOp X (binaryOp .Add) wAddS := mop_of op_add_str fun x y v w H m Q Qm hx hy r q k => by
  unfold wAddS at q
  split at q
  · rw [Rep.str_iff.mp hx, Rep.str_iff.mp hy]
    exact ⟨_, _, rfl, rfl, q.1, k _ _ _ _ q.2 r Step.refl Rep.str⟩
  · exact q.elim
def isN : D → Bool
  | .non => true
  | _ => false
theorem isN_of {K : PySem.W.Frag} {H : Hp} {x : D} {v : V} (hx : Rep K H x v) : decide (v = .non) = isN x := by
  cases x with
  | non => rw [Rep.non_iff.mp hx]; rfl
  | bl b => rw [Rep.bl_iff.mp hx]; rfl
  | int b => rw [Rep.int_iff.mp hx]; rfl
  | str b => rw [Rep.str_iff.mp hx]; rfl
  | ref b => rw [Rep.ref_iff.mp hx]; rfl
  | ty b => rw [Rep.ty_iff.mp hx]; rfl
  | tup b => obtain ⟨a, xs, e, _⟩ := Rep.tup_iff.mp hx; rw [e]; rfl
def wIsN : R2m := fun x y m Q => match y with
  | .non => Q (.bl (isN x)) m
  | _ => False
def wNotN : R2m := fun x y m Q => match y with
  | .non => Q (.bl (!isN x)) m
  | _ => False
theorem mo_isN : MOp X (compareOp .Is) wIsN := mop_of op_isN fun x y v w H m Q Qm hx hy r q k => by
  unfold wIsN at q
  split at q
  · exact ⟨Rep.non_iff.mp hy, by rw [isN_of hx]; exact k _ _ _ _ q r Step.refl Rep.bl⟩
  · exact q.elim
theorem mo_notN : MOp X (compareOp .IsNot) wNotN := mop_of op_notN fun x y v w H m Q Qm hx hy r q k => by
  unfold wNotN at q
  split at q
  · exact ⟨Rep.non_iff.mp hy, by rw [isN_of hx]; exact k _ _ _ _ q r Step.refl Rep.bl⟩
  · exact q.elim

/-! ### and, or, not, if -/
def wAnd (t u : TTm) : TTm := fun ρ m Q => t ρ m fun c m1 => if c = true then u ρ m1 Q else Q false m1
def wOr (t u : TTm) : TTm := fun ρ m Q => t ρ m fun c m1 => if c = true then Q true m1 else u ρ m1 Q
def wNot (t : TTm) : TTm := fun ρ m Q => t ρ m fun c m1 => Q (!c) m1
theorem mw_pt {t : TTm} (h : MW X B e t) : MT X B e t := h.pt
theorem mw_and1 (ha : MT X B a ta) : MW X B (.BoolOp .And [a] pos) ta := pw_and1 ha
theorem mw_or1 (ha : MT X B a ta) : MW X B (.BoolOp .Or [a] pos) ta := pw_or1 ha
theorem mw_and (ha : MT X B a ta) (hb : MW X B (.BoolOp .And (b :: rest) pos) tb) : MW X B (.BoolOp .And (a :: b :: rest) pos) (wAnd ta tb) :=
  pwImp (pw_and ha hb) fun σ H Q ⟨ρ, m, Qm, A, q, k⟩ => by
    refine ⟨ρ, m, _, A, q, fun c m1 H1 q1 r1 t1 => ?_⟩
    cases c with
    | true => simp only [if_true] at q1 ⊢; exact ⟨ρ, m1, Qm, A.step r1 t1, q1, fun d m' H' q2 r2 t2 => k d m' H' q2 r2 (t1.trans t2)⟩
    | false => simp only [Bool.false_eq_true, if_false] at q1 ⊢; exact k _ _ _ q1 r1 t1
theorem mw_or (ha : MT X B a ta) (hb : MW X B (.BoolOp .Or (b :: rest) pos) tb) : MW X B (.BoolOp .Or (a :: b :: rest) pos) (wOr ta tb) :=
  pwImp (pw_or ha hb) fun σ H Q ⟨ρ, m, Qm, A, q, k⟩ => by
    refine ⟨ρ, m, _, A, q, fun c m1 H1 q1 r1 t1 => ?_⟩
    cases c with
    | false => simp only [Bool.false_eq_true, if_false] at q1 ⊢; exact ⟨ρ, m1, Qm, A.step r1 t1, q1, fun d m' H' q2 r2 t2 => k d m' H' q2 r2 (t1.trans t2)⟩
    | true => simp only [if_true] at q1 ⊢; exact k _ _ _ q1 r1 t1
theorem mt_not (ha : MT X B a ta) : MT X B (.UnaryOp .Not a pos) (wNot ta) :=
  ptImp (pt_not ha) fun σ H Q ⟨ρ, m, Qm, A, q, k⟩ => ⟨ρ, m, _, A, q, fun c m1 H1 q1 r1 t1 => k _ _ _ q1 r1 t1⟩
/-- a value that is True or False, by and, or, not -/
def wAndV (p q : TEm) : TEm := fun ρ m Q => p ρ m fun d m1 => ∃ c, d = .bl c ∧ if c = true then q ρ m1 Q else Q (.bl false) m1
def wOrV (p q : TEm) : TEm := fun ρ m Q => p ρ m fun d m1 => ∃ c, d = .bl c ∧ if c = true then Q (.bl true) m1 else q ρ m1 Q
def wNotV (p : TEm) : TEm := fun ρ m Q => p ρ m fun d m1 => ∃ c, d = .bl c ∧ Q (.bl (!c)) m1
theorem mx_one {op} {p : TEm} (h : MX X B a p) : MX X B (.BoolOp op [a] pos) p := pe_one h
theorem mx_and (ha : MX X B a pa) (hb : MX X B (.BoolOp .And (b :: rest) pos) pb) : MX X B (.BoolOp .And (a :: b :: rest) pos) (wAndV pa pb) :=
  peImp (pe_and ha hb) fun σ H Q ⟨ρ, m, Qm, A, q, k⟩ => by
    refine ⟨ρ, m, _, A, q, fun d m1 v H1 ⟨c, e, q1⟩ r1 t1 x1 => ?_⟩
    subst e
    refine ⟨c, Rep.bl_iff.mp x1, ?_⟩
    cases c with
    | true => simp only [if_true] at q1 ⊢; exact ⟨ρ, m1, Qm, A.step r1 t1, q1, fun d m' v H' q2 r2 t2 => k d m' v H' q2 r2 (t1.trans t2)⟩
    | false => simp only [Bool.false_eq_true, if_false] at q1 ⊢; exact k _ _ _ _ q1 r1 t1 Rep.bl
theorem mx_or (ha : MX X B a pa) (hb : MX X B (.BoolOp .Or (b :: rest) pos) pb) : MX X B (.BoolOp .Or (a :: b :: rest) pos) (wOrV pa pb) :=
  peImp (pe_or ha hb) fun σ H Q ⟨ρ, m, Qm, A, q, k⟩ => by
    refine ⟨ρ, m, _, A, q, fun d m1 v H1 ⟨c, e, q1⟩ r1 t1 x1 => ?_⟩
    subst e
    refine ⟨c, Rep.bl_iff.mp x1, ?_⟩
    cases c with
    | false => simp only [Bool.false_eq_true, if_false] at q1 ⊢; exact ⟨ρ, m1, Qm, A.step r1 t1, q1, fun d m' v H' q2 r2 t2 => k d m' v H' q2 r2 (t1.trans t2)⟩
    | true => simp only [if_true] at q1 ⊢; exact k _ _ _ _ q1 r1 t1 Rep.bl
theorem mx_not (ha : MX X B a pa) : MX X B (.UnaryOp .Not a pos) (wNotV pa) :=
  peImp (pe_not ha) fun σ H Q ⟨ρ, m, Qm, A, q, k⟩ => by
    refine ⟨ρ, m, _, A, q, fun d m1 v H1 ⟨c, e, q1⟩ r1 t1 x1 => ?_⟩
    subst e
    exact ⟨c, Rep.bl_iff.mp x1, k _ _ _ _ q1 r1 t1 Rep.bl⟩
def wIf (t : TTm) (p q : TEm) : TEm := fun ρ m Q => t ρ m fun c m1 => if c = true then p ρ m1 Q else q ρ m1 Q
theorem mx_if (hc : MT X B c tc) (ha : MX X B a pa) (hb : MX X B b pb) : MX X B (.IfExp c a b pos) (wIf tc pa pb) :=
  peImp (pe_ifExp hc ha hb) fun σ H Q ⟨ρ, m, Qm, A, q, k⟩ => by
    refine ⟨ρ, m, _, A, q, fun d m1 H1 q1 r1 t1 => ?_⟩
    cases d with
    | true => simp only [if_true] at q1 ⊢; exact ⟨ρ, m1, Qm, A.step r1 t1, q1, fun d m' v H' q2 r2 t2 => k d m' v H' q2 r2 (t1.trans t2)⟩
    | false => simp only [Bool.false_eq_true, if_false] at q1 ⊢; exact ⟨ρ, m1, Qm, A.step r1 t1, q1, fun d m' v H' q2 r2 t2 => k d m' v H' q2 r2 (t1.trans t2)⟩
def wNeg : R1m := fun x m Q => match x with
  | .int i => Q (.int (-i)) m
  | _ => False
def wUn (r : R1m) (p : TEm) : TEm := fun ρ m Q => p ρ m fun d m1 => r d m1 Q
theorem mx_neg (ha : MX X B a pa) : MX X B (.UnaryOp .USub a pos) (wUn wNeg pa) :=
  peImp (pe_un un_neg ha) fun σ H Q ⟨ρ, m, Qm, A, q, k⟩ => by
    refine ⟨ρ, m, _, A, q, fun d m1 v H1 q1 r1 t1 x1 => ?_⟩
    unfold wNeg at q1
    split at q1
    · exact ⟨_, Rep.int_iff.mp x1, k _ _ _ _ q1 r1 t1 Rep.int⟩
    · exact q1.elim

/-! ### argument lists, displays -/
def wNil : TAm := fun _ m Q => Q [] m
def wCons (p : TEm) (t : TAm) : TAm := fun ρ m Q => p ρ m fun d m1 => t ρ m1 fun ds m2 => Q (d :: ds) m2
theorem ma_nil : MA X B [] wNil := paImp pa_nil fun σ H Q ⟨ρ, m, Qm, A, q, k⟩ => k [] m [] H q A.r Step.refl Reps.nil
theorem ma_cons (ha : MX X B e pa) (hr : MA X B es la) (hs : starEach (e :: es) X.env = (false, eval e X.env) :: starEach es X.env := by rfl) : MA X B (e :: es) (wCons pa la) :=
  paImp (pa_cons ha hr hs) fun σ H Q ⟨ρ, m, Qm, A, q, k⟩ => by
    refine ⟨ρ, m, _, A, q, fun d m1 v H1 q1 r1 t1 x1 => ?_⟩
    refine ⟨ρ, m1, _, A.step r1 t1, q1, fun ds m2 vs H2 q2 r2 t2 x2 => ?_⟩
    exact k _ _ _ _ q2 r2 (t1.trans t2) (Reps.cons (x1.stay (t2.tups r1)) x2)
def wTup (t : TAm) : TEm := fun ρ m Q => t ρ m fun ds m1 => ds.length ≤ sizeLine ∧ Q (.tup ds) m1
theorem mx_tup {k : Nat} (h : MA X B es la) : MX X B (.Tuple es k pos) (wTup la) :=
  peImp (pe_tup h) fun σ H Q ⟨ρ, m, Qm, A, q, k⟩ => by
    refine ⟨ρ, m, _, A, q, fun ds m1 vs H1 ⟨z, q1⟩ r1 t1 x1 => ⟨by rw [← x1.length]; exact z, fun p hp => ?_⟩⟩
    have t2 : Step m1 H1 m1 (upd H1 p (.tup vs)) := Step.hid r1 hp
    exact k _ _ _ _ q1 (r1.hid hp) (t1.trans t2) (Rep.tup_iff.mpr ⟨p, vs, rfl, TupAt.of upd_same, x1.stay (t2.tups r1)⟩)
/-- a new object is laid -/
def newO (o : O) (m : Mem) (Q : KM) : Prop := ∀ p, m p = none → Q (.ref p) (mput m p o)
theorem new_go {K : PySem.W.Frag} {m0 m1 : Mem} {H0 H1 : Hp} {o : O} {u : HO} {Qm : KM} {Q : VK} (q : newO o m1 Qm) (r1 : RM K H1 m1) (t1 : Step m0 H0 m1 H1) (x : RepO K H1 o u) (k : ∀ d m' v H', Qm d m' → RM K H' m' → Step m0 H0 m' H' → Rep K H' d v → Q v H') :
    ∀ p, H1 p = none → Q (.ref p) (upd H1 p u) := fun p hp => k _ _ _ _ (q p (r1.out hp)) (r1.new hp x) (t1.trans (Step.new r1 hp)) Rep.ref
def wLst (t : TAm) : TEm := fun ρ m Q => t ρ m fun ds m1 => ds.length ≤ sizeLine ∧ newO (.lst ds) m1 Q
theorem mx_lst (h : MA X B es la) : MX X B (.List es pos) (wLst la) :=
  peImp (pe_lst h) fun σ H Q ⟨ρ, m, Qm, A, q, k⟩ => by
    refine ⟨ρ, m, _, A, q, fun ds m1 vs H1 ⟨z, q1⟩ r1 t1 x1 => ⟨by rw [← x1.length]; exact z, ?_⟩⟩
    exact new_go q1 r1 t1 ⟨vs, rfl, x1⟩ k

/-! ### reading an object -/
def rdM (m : Mem) (a : Addr) : Option O := match m a with
  | some (.frz o) => some o
  | o => o
theorem rd_of {m : Mem} {a : Addr} {o : O} (h : m a = some o) (w : Wr o) : rdM m a = some o := by
  unfold rdM; rw [h]; cases o <;> first | rfl | exact w.elim
theorem rd_frz {m : Mem} {a : Addr} {o : O} (h : m a = some (.frz o)) : rdM m a = some o := by unfold rdM; rw [h]
theorem rd_go {K : PySem.W.Frag} {H : Hp} {m : Mem} {a : Addr} {o : O} (r : RM K H m) (h : rdM m a = some o) : ∃ u, Rd H a u ∧ RepO K H o u := by
  unfold rdM at h
  split at h
  · rename_i o' e
    cases h
    obtain ⟨u, h1, ob, v, rfl, h2⟩ := r a _ e
    exact ⟨v, .inr ⟨ob, h1⟩, h2⟩
  · obtain ⟨u, h1, h2⟩ := r a _ h
    exact ⟨u, .inl h1, h2⟩
theorem rd_lst {K : PySem.W.Frag} {H : Hp} {m : Mem} {a : Addr} {ds : List D} (r : RM K H m) (h : rdM m a = some (.lst ds)) : ∃ xs, SqL K H a xs ∧ Reps K H ds xs := by
  obtain ⟨u, h1, xs, rfl, h2⟩ := rd_go r h
  exact ⟨xs, .inl h1, h2⟩
end
end Mm
namespace Mm
open PySem L2
section
variable {X : Cx} {B : Bs} {e a b c : Expr} {st : Stmt} {es : List Expr} {rest : List Stmt} {pos : Pos} {pa pb pc p : TEm} {ta tb tc : TTm} {la : TAm} {t u : TSm}

/-! ### statements -/
def wSeq (t u : TSm) : TSm := fun E ρ m => t { E with nx := u E } ρ m
def wNext : TSm := fun E ρ m => E.nx ρ m
theorem uN.refl {K : PySem.W.Frag} {n : St → Hp → Prop} {m : Mem} {H : Hp} {nm : StM → Mem → Prop} {σ : St} {ρ : StM} (h : uN K n m H nm) (A : At K B σ H ρ m) (q : nm ρ m) : n σ H := h _ _ _ _ q A.r Step.refl A.s
theorem uN.trans {K : PySem.W.Frag} {n : St → Hp → Prop} {m m1 : Mem} {H H1 : Hp} {nm : StM → Mem → Prop} (h : uN K n m H nm) (t1 : Step m H m1 H1) : uN K n m1 H1 nm := fun ρ' m' σ' H' q r t s => h ρ' m' σ' H' q r (t1.trans t) s
theorem mss_nil : MSs X B [] wNext := pssImp pss_nil fun D σ H ⟨ρ, m, E, A, q, n, _⟩ => n.refl A q
theorem mss_one (h : MS X B st t) : MSs X B [st] t := pss_one h
theorem mss_cons (h1 : MS X B st t) (h2 : MSs X B rest u) : MSs X B (st :: rest) (wSeq t u) := pssImp (pss_cons h1 h2) fun D σ H ⟨ρ, m, E, A, q, n, rt, bk, ct⟩ => by
  refine ⟨ρ, m, { E with nx := u E }, A, q, ?_, rt, bk, ct⟩
  intro ρ' m' σ' H' q' r' t' s'
  exact ⟨ρ', m', E, A.step' r' t' s', q', n.trans t', fun d m2 v H2 q2 r2 t2 x2 => rt d m2 v H2 q2 r2 (t'.trans t2) x2, bk.trans t', ct.trans t'⟩
theorem ms_pass : MS X B (.Pass pos) wNext := psImp ps_pass fun D σ H ⟨ρ, m, E, A, q, n, _⟩ => n.refl A q
theorem ms_doc {x j pos pos'} : MS X B (.Expr (.Constant (.str x) j pos) pos') wNext := psImp ps_doc fun D σ H ⟨ρ, m, E, A, q, n, _⟩ => n.refl A q
def wBreak : TSm := fun E ρ m => E.bk ρ m
def wCont : TSm := fun E ρ m => E.ct ρ m
theorem ms_break : MS X B (.Break pos) wBreak := psImp ps_break fun D σ H ⟨ρ, m, E, A, q, n, _, bk, _⟩ => bk.refl A q
theorem ms_continue : MS X B (.Continue pos) wCont := psImp ps_continue fun D σ H ⟨ρ, m, E, A, q, n, _, _, ct⟩ => ct.refl A q
def wDrop (p : TEm) : TSm := fun E ρ m => p ρ m fun _ m1 => E.nx ρ m1
theorem ms_expr (h : MX X B e p) (hs : swapsWith e none pos.line X.env = pure false := by rfl) : MS X B (.Expr e pos) (wDrop p) := psImp (ps_expr h hs) fun D σ H ⟨ρ, m, E, A, q, n, _⟩ =>
  ⟨ρ, m, _, A, q, fun d m1 v H1 q1 r1 t1 x1 => n _ _ _ _ q1 r1 t1 (A.s.stay (t1.tups A.r))⟩
def wRet (p : TEm) : TSm := fun E ρ m => p ρ m E.rt
theorem ms_ret (h : MX X B e p) : MS X B (.Return (some e) pos) (wRet p) := psImp (ps_ret h) fun D σ H ⟨ρ, m, E, A, q, n, rt, _⟩ => ⟨ρ, m, _, A, q, rt⟩
def wRetN : TSm := fun E _ m => E.rt .non m
theorem ms_retN : MS X B (.Return none pos) wRetN := psImp ps_retN fun D σ H ⟨ρ, m, E, A, q, n, rt, _⟩ => rt _ _ _ _ q A.r Step.refl Rep.non
def wIfS (c : TTm) (t u : TSm) : TSm := fun E ρ m => c ρ m fun b m1 => if b = true then t E ρ m1 else u E ρ m1
theorem ms_if {xs ys : List Stmt} (hc : MT X B c tc) (ha : MSs X B xs t) (hb : MSs X B ys u) : MS X B (.If c xs ys pos) (wIfS tc t u) := psImp (ps_if hc ha hb) fun D σ H ⟨ρ, m, E, A, q, n, rt, bk, ct⟩ => by
  refine ⟨ρ, m, _, A, q, fun d m1 H1 q1 r1 t1 => ?_⟩
  have fin : ∀ {v : TSm}, v E ρ m1 → uS X.K B v D σ H1 := fun {v} z => ⟨ρ, m1, E, A.step r1 t1, z, n.trans t1, fun d m2 v H2 q2 r2 t2 x2 => rt d m2 v H2 q2 r2 (t1.trans t2) x2, bk.trans t1, ct.trans t1⟩
  cases d with
  | true => simp only [if_true] at q1 ⊢; exact fin q1
  | false => simp only [Bool.false_eq_true, if_false] at q1 ⊢; exact fin q1
def wNever : TSm := fun _ _ _ => False
theorem ms_never : MS X B st wNever := psImp ps_never fun D σ H ⟨ρ, m, E, A, q, _⟩ => q
theorem mss_never {sts : List Stmt} : MSs X B sts wNever := pssImp pss_never fun D σ H ⟨ρ, m, E, A, q, _⟩ => q

/-! ### targets -/
def gN (i : Nat) : TGm := fun d ρ m Q => Q (ρ.set i (some d)) m
theorem mg_name {i : Nat} {x : Str} (hN : X.N.Nodup) (hi : X.N[i]? = some x) (hx : Loc X.env.scope x) (hf : X.fn x = true ∨ X.env.scope.names.lookup x = some .local := by first | exact .inl rfl | exact .inr rfl | assumption) : MG X B (.Name x pos) (gN i) :=
  pgImp (pg_name hN hi hx hf) fun v σ H Q ⟨d, ρ, m, Qm, x, A, q, k⟩ => k _ _ _ _ q A.r Step.refl (Ss.set x i A.s)
def gNils : TGsm := fun ds ρ m Q => ds = [] ∧ Q ρ m
def gConss (g : TGm) (h : TGsm) : TGsm := fun ds ρ m Q => match ds with
  | d :: r => g d ρ m fun ρ1 m1 => h r ρ1 m1 Q
  | [] => False
theorem mgs_nil : MGs X B [] gNils := pgsImp pgs_nil fun vs σ H Q ⟨ds, ρ, m, Qm, x, A, ⟨e, q⟩, k⟩ => by
  subst e
  exact ⟨Reps.nil_iff.mp x, k _ _ _ _ q A.r Step.refl A.s⟩
theorem mgs_cons {g : TGm} {h : TGsm} (h1 : MG X B e g) (h2 : MGs X B es h) (hs : (assignEach (e :: es) X.env).map (·.2) = assign e X.env :: (assignEach es X.env).map (·.2) := by rfl) : MGs X B (e :: es) (gConss g h) :=
  pgsImp (pgs_cons h1 h2 hs) fun vs σ H Q ⟨ds, ρ, m, Qm, x, A, q, k⟩ => by
    unfold gConss at q
    split at q
    · rename_i d r
      obtain ⟨v, w, e, x1, x2⟩ := Reps.cons_iff.mp x
      refine ⟨v, w, e, d, ρ, m, _, x1, A, q, fun ρ1 m1 σ1 H1 q1 r1 t1 s1 => ?_⟩
      exact ⟨r, ρ1, m1, Qm, x2.stay (t1.tups A.r), A.step' r1 t1 s1, q1, k.trans t1⟩
    · exact q.elim
def gTupM (n : Nat) (h : TGsm) : TGm := fun d ρ m Q => match d with
  | .tup ds => ds.length = n ∧ h ds ρ m Q
  | _ => False
theorem mg_tup {k : Nat} {h : TGsm} {n : Nat} (hc : X.calm = true) (hh : MGs X B es h) (hn : (assignEach es X.env).length = n := by rfl) (hst : (assignEach es X.env).findIdx? (·.1) = none := by rfl) : MG X B (.Tuple es k pos) (gTupM n h) :=
  pgImp (pg_tup hc hh hn hst) fun v σ H Q ⟨d, ρ, m, Qm, x, A, q, k⟩ => by
    unfold gTupM at q
    split at q
    · obtain ⟨a, xs, e, s, r⟩ := Rep.tup_iff.mp x
      exact ⟨a, xs, e, s.sq, by rw [← r.length]; exact q.1, _, ρ, m, Qm, r, A, q.2, k⟩
    · exact q.elim
def wAsg (p : TEm) (g : TGm) : TSm := fun E ρ m => p ρ m fun d m1 => g d ρ m1 E.nx
theorem asg_go {K : PySem.W.Frag} {g : TGm} {D : Ends} {σ : St} {H : Hp} (h : uS K B (wAsg p g) D σ H) : tAsg (uE K B p) (uG K B g) D σ H := by
  obtain ⟨ρ, m, E, A, q, n, _⟩ := h
  exact ⟨ρ, m, _, A, q, fun d m1 v H1 q1 r1 t1 x1 => ⟨d, ρ, m1, _, x1, A.step r1 t1, q1, n.trans t1⟩⟩
theorem ms_asg {tg : Expr} {g : TGm} (h : MX X B e p) (hg : MG X B tg g) (hs : swapsWithSole [tg] e pos.line X.env = pure false := by rfl) (hw : swappedStores [tg] e X.env = pure none := by rfl)
    (h1 : (assignEach [tg] X.env).map (·.2) = [assign tg X.env] := by rfl) : MS X B (.Assign [tg] e pos) (wAsg p g) := psImp (ps_asg h hg hs hw h1) fun D σ H h => asg_go h
def wSet (i : Nat) (p : TEm) : TSm := fun E ρ m => p ρ m fun d m1 => E.nx (ρ.set i (some d)) m1
theorem ms_set {i : Nat} {x : Str} {pos' : Pos} (hN : X.N.Nodup) (hi : X.N[i]? = some x) (hx : Loc X.env.scope x) (h : MX X B e p) (hs : swapsWith e (some (.Name x pos')) pos.line X.env = pure false := by rfl) (hf : X.fn x = true ∨ X.env.scope.names.lookup x = some .local := by first | exact .inl rfl | exact .inr rfl | assumption) :
    MS X B (.Assign [.Name x pos'] e pos) (wSet i p) := psImp (ps_set hN hi hx h hs hf) fun D σ H ⟨ρ, m, E, A, q, n, _⟩ =>
  ⟨ρ, m, _, A, q, fun d m1 v H1 q1 r1 t1 x1 => n _ _ _ _ q1 r1 t1 (Ss.set x1 i (A.s.stay (t1.tups A.r)))⟩
def wPar (i j : Nat) (t : TAm) : TSm := fun E ρ m => t ρ m fun ds m1 => twoAt ds fun x y => E.nx ((ρ.set i (some x)).set j (some y)) m1
theorem ms_par {i j : Nat} {x y : Str} {px py pt : Pos} {kt k2 pt2} (hc : X.calm = true) (hN : X.N.Nodup) (hi : X.N[i]? = some x) (hj : X.N[j]? = some y) (hij : i ≠ j)
    (hx : X.env.scope.names.lookup x = some .local) (hy : X.env.scope.names.lookup y = some .local) (ha : MA X B [a, b] la)
    (hw : swappedStores [.Tuple [.Name x px, .Name y py] kt pt] (.Tuple [a, b] k2 pt2) X.env = pure (some [x, y]))
    (hs : swapsWithSole [.Tuple [.Name x px, .Name y py] kt pt] (.Tuple [a, b] k2 pt2) pos.line X.env = pure false := by rfl) :
    MS X B (.Assign [.Tuple [.Name x px, .Name y py] kt pt] (.Tuple [a, b] k2 pt2) pos) (wPar i j la) := psImp (ps_par hc hN hi hj hij hx hy ha hw hs) fun D σ H ⟨ρ, m, E, A, q, n, _⟩ => by
  refine ⟨ρ, m, _, A, q, fun ds m1 vs H1 q1 r1 t1 x1 => ?_⟩
  unfold twoAt at q1
  split at q1
  · obtain ⟨v, r, e, y1, y2⟩ := Reps.cons_iff.mp x1
    obtain ⟨w, r', e', z1, z2⟩ := Reps.cons_iff.mp y2
    rw [Reps.nil_iff.mp z2] at e'
    subst e'
    exact ⟨v, w, e, n _ _ _ _ q1 r1 t1 (Ss.set z1 j (Ss.set y1 i (A.s.stay (t1.tups A.r))))⟩
  · exact q1.elim

/-! ### subscripts -/
theorem mix_of {r : R2m} {r0 : R2} (h : IxR X r0) (i : ∀ x y v w H m Q Qm, Rep X.K H x v → Rep X.K H y w → RM X.K H m → r x y m Qm → (∀ d m' v H', Qm d m' → RM X.K H' m' → Step m H m' H' → Rep X.K H' d v → Q v H') → r0 v w H Q) : MIx X r :=
  ixImp h fun v w H Q ⟨x, y, m, Qm, hx, hy, r, q, k⟩ => i x y v w H m Q Qm hx hy r q k
theorem mx_ix {r : R2m} (hr : MIx X r) (ha : MX X B a pa) (hb : MX X B b pb) (hs : PlainIx b := by exact fun _ _ => rfl) : MX X B (.Subscript a b pos) (wBin r pa pb) :=
  peImp (pe_ix hr ha hb hs) fun σ H Q h => bin_go (fun _ _ _ _ q => q) h
/-- the item of a sequence at a place -/
def wIx : R2m := fun x y m Q => match x, y with
  | .tup ds, .int i => ∃ d, atI ds i = some d ∧ Q d m
  | .ref a, .int i => ∃ ds d, rdM m a = some (.lst ds) ∧ atI ds i = some d ∧ Q d m
  | .str z, .int i => z.length ≤ sizeLine ∧ ∃ c, atI z.cps.toList i = some c ∧ Q (.str ⟨#[c]⟩) m
  | _, _ => False
theorem atI_rep {K : PySem.W.Frag} {H : Hp} {ds : List D} {vs : List V} {i : Int} {d : D} (h : Reps K H ds vs) (e : atI ds i = some d) : ∃ v, atI vs i = some v ∧ Rep K H d v := by
  unfold atI at e ⊢
  rw [← h.length]
  cases q : ixN ds.length i with
  | none => rw [q] at e; cases e
  | some j =>
    rw [q] at e
    exact h.get e
theorem mi_ix : MIx X wIx := mix_of ix_seq fun x y v w H m Q Qm hx hy r q k => by
  unfold wIx at q
  split at q
  · obtain ⟨d, e, q⟩ := q
    obtain ⟨a, xs, e1, s, rr⟩ := Rep.tup_iff.mp hx
    obtain ⟨v', e2, x2⟩ := atI_rep rr e
    exact .inr (.inl ⟨a, xs, _, v', e1, Rep.int_iff.mp hy, s.sq, e2, k _ _ _ _ q r Step.refl x2⟩)
  · obtain ⟨ds, d, e0, e, q⟩ := q
    obtain ⟨xs, s, rr⟩ := rd_lst r e0
    obtain ⟨v', e2, x2⟩ := atI_rep rr e
    exact .inl ⟨_, xs, _, v', Rep.ref_iff.mp hx, Rep.int_iff.mp hy, s, e2, k _ _ _ _ q r Step.refl x2⟩
  · obtain ⟨z, c, e, q⟩ := q
    exact .inr (.inr ⟨_, _, c, Rep.str_iff.mp hx, Rep.int_iff.mp hy, z, e, k _ _ _ _ q r Step.refl Rep.str⟩)
  · exact q.elim

/-! ### calls of built-ins -/
theorem mcall_of {f : Value} {r : RLm} {r0 : List V → Hp → VK → Prop} (h : CallR X f r0) (i : ∀ ds vs H m Q Qm, Reps X.K H ds vs → RM X.K H m → r ds m Qm → (∀ d m' v H', Qm d m' → RM X.K H' m' → Step m H m' H' → Rep X.K H' d v → Q v H') → r0 vs H Q) : MCall X f r :=
  callImp h fun vs H Q ⟨ds, m, Qm, hx, r, q, k⟩ => i ds vs H m Q Qm hx r q k
def wCB (r : RLm) (t : TAm) : TEm := fun ρ m Q => t ρ m fun ds m1 => r ds m1 Q
theorem cb_go {K : PySem.W.Frag} {r : RLm} {σ : St} {H : Hp} {Q : VK} (h : uE K B (wCB r la) σ H Q) : tCB (uRL K r) (uA K B la) σ H Q := by
  obtain ⟨ρ, m, Qm, A, q, k⟩ := h
  exact ⟨ρ, m, _, A, q, fun ds m1 vs H1 q1 r1 t1 x1 => ⟨ds, m1, Qm, x1, r1, q1, fun d m' v H' q2 r2 t2 x2 => k d m' v H' q2 r2 (t1.trans t2) x2⟩⟩
theorem mx_callB {x : Str} {id : String} {r : RLm} {p : Pos} (hc : MCall X (.builtin id) r) (hm : X.mg x = none) (ha : MA X B (e :: es) la) (hg : Gl X x := by rfl) (hv : bootBuiltins x = some (.builtin id) := by decide +kernel) (hn : x ≠ "__name__" := by decide) (hdb : (x == ("__debug__" : Str)) = false := by decide)
    (he : starEach (e :: es) X.env = (false, eval e X.env) :: starEach es X.env := by rfl) (hpl : (backTo pos (starEach es X.env)).any (·.1) = false := by rfl) : MX X B (.Call (.Name x p) (e :: es) [] pos) (wCB r la) :=
  peImp (pe_callB hc hg hm hv ha hn hdb he hpl) fun σ H Q h => cb_go h
theorem mx_callTy {x : Str} {T : String} {r : RLm} {p : Pos} (hc : MCall X (.type T) r) (hm : X.mg x = none) (ha : MA X B (e :: es) la) (hg : Gl X x := by rfl) (hv : bootBuiltins x = some (.type T) := by decide +kernel) (hn : x ≠ "__name__" := by decide) (hdb : (x == ("__debug__" : Str)) = false := by decide)
    (he : starEach (e :: es) X.env = (false, eval e X.env) :: starEach es X.env := by rfl) (hpl : (backTo pos (starEach es X.env)).any (·.1) = false := by rfl) : MX X B (.Call (.Name x p) (e :: es) [] pos) (wCB r la) :=
  peImp (pe_callTy hc hg hm hv ha hn hdb he hpl) fun σ H Q h => cb_go h
theorem reps1 {K : PySem.W.Frag} {H : Hp} {d : D} {vs : List V} (h : Reps K H [d] vs) : ∃ v, vs = [v] ∧ Rep K H d v := by
  obtain ⟨v, r, e, x, y⟩ := Reps.cons_iff.mp h
  rw [Reps.nil_iff.mp y] at e
  exact ⟨v, e, x⟩
theorem reps2 {K : PySem.W.Frag} {H : Hp} {d d2 : D} {vs : List V} (h : Reps K H [d, d2] vs) : ∃ v w, vs = [v, w] ∧ Rep K H d v ∧ Rep K H d2 w := by
  obtain ⟨v, r, e, x, y⟩ := Reps.cons_iff.mp h
  obtain ⟨w, e2, z⟩ := reps1 y
  subst e2
  exact ⟨v, w, e, x, z⟩
/-- len -/
def wLen : RLm := fun ds m Q => match ds with
  | [.str z] => z.length ≤ sizeLine ∧ Q (.int z.length) m
  | [.tup ds] => Q (.int ds.length) m
  | [.ref a] => (∃ ds, rdM m a = some (.lst ds) ∧ Q (.int ds.length) m) ∨ (∃ kvs, rdM m a = some (.dK kvs) ∧ Q (.int kvs.length) m) ∨ ∃ kvs, m a = some (.dT kvs) ∧ Q (.int kvs.length) m
  | _ => False
end
end Mm
namespace Mm
open PySem L2

/-! ### what is walked: the items, a look at the memory ahead of each turn -/
abbrev TIm := StM → Mem → (List D → (Mem → Prop) → Mem → Prop) → Prop
/-- the iterator J gives the items ds while chk stands -/
def Good (K : PySem.W.Frag) (J : It) (ds : List D) (chk : Mem → Prop) (m1 : Mem) (H1 : Hp) : Prop :=
  ∀ (i : Nat) (m' : Mem) (H' : Hp), Step m1 H1 m' H' → RM K H' m' → chk m' →
    (∀ d, ds[i]? = some d → J.go i H' ∧ ∀ x H2, J.yld i H' x H2 → RM K H2 m' ∧ Step m' H' m' H2 ∧ Rep K H2 d x) ∧ (ds.length ≤ i → J.stop i H')
def uI (K : PySem.W.Frag) (B : Bs) (ti : TIm) : TI := fun σ H R => ∃ ρ m Rm, At K B σ H ρ m ∧ ti ρ m Rm ∧ ∀ ds chk m1 H1 J, Rm ds chk m1 → RM K H1 m1 → Step m H m1 H1 → Good K J ds chk m1 H1 → R J H1
section
variable {X : Cx} {tg iter : Expr}
theorem piImp {t t' : TI} (h : PI X tg iter t) (i : ∀ σ H R, t' σ H R → t σ H R) : PI X tg iter t' := ⟨fun pins s σ H R I q => h.run pins s σ H R I (i _ _ _ q)⟩
end
def MI (X : Cx) (B : Bs) (tg iter : Expr) (ti : TIm) : Prop := PI X tg iter (uI X.K B ti)

section
variable {X : Cx} {B : Bs} {e e2 a b c tg iter : Expr} {st : Stmt} {es : List Expr} {rest body : List Stmt} {pos : Pos} {pa pb pc p : TEm} {ta tb tc : TTm} {la : TAm} {t u : TSm}
/-- over a list, looked at ahead of each turn -/
def iL (p : TEm) : TIm := fun ρ m R => p ρ m fun d m1 => refAt d fun a => ∃ ds, rdM m1 a = some (.lst ds) ∧ R ds (fun m' => rdM m' a = some (.lst ds)) m1
/-- over a list of which nothing else is known while it is walked -/
def iH (p : TEm) : TIm := fun ρ m R => p ρ m fun d m1 => refAt d fun a => ∃ ds m0, rdM m1 a = some (.lst ds) ∧ Sub m0 m1 ∧ Nm m0 a ∧ R ds (fun _ => True) m0
def iT (p : TEm) : TIm := fun ρ m R => p ρ m fun d m1 => tupAt d fun ds => R ds (fun _ => True) m1
theorem good_list {K : PySem.W.Frag} {a : Addr} {ds : List D} {chk : Mem → Prop} {m1 : Mem} {H1 : Hp} (h : ∀ m' H', Step m1 H1 m' H' → RM K H' m' → chk m' → ∃ xs, SqL K H' a xs ∧ Reps K H' ds xs) (hf : ∀ H' xs ys, SqL K H' a xs → SqL K H' a ys → xs = ys → True) :
    Good K ⟨(Itl K a).go, fun i H x H' => H' = H ∧ ∀ xs, SqL K H a xs → xs[i]? = some x, (Itl K a).stop⟩ ds chk m1 H1 := fun i m' H' s r k => by
  obtain ⟨xs, hx, rr⟩ := h m' H' s r k
  refine ⟨fun d e => ?_, fun e => ⟨xs, hx, by rw [← rr.length]; exact e⟩⟩
  obtain ⟨v, e2, x2⟩ := rr.get e
  refine ⟨⟨xs, v, hx, e2⟩, fun x H2 y => ?_⟩
  obtain ⟨e3, y⟩ := y
  subst e3
  have e4 := y xs hx
  rw [e2] at e4; cases e4
  exact ⟨r, Step.refl, x2⟩
theorem mi_list (h : MX X B iter p) : MI X B tg iter (iL p) := piImp (pi_list h) fun σ H R ⟨ρ, m, Rm, A, q, k⟩ => by
  refine ⟨ρ, m, _, A, q, fun d m1 v H1 q1 r1 t1 x1 => ?_⟩
  unfold refAt at q1
  split at q1
  · obtain ⟨ds, e, q1⟩ := q1
    obtain ⟨xs, hx, rr⟩ := rd_lst r1 e
    refine ⟨_, Rep.ref_iff.mp x1, ⟨xs, hx⟩, k _ _ _ _ _ q1 r1 t1 (good_list (fun m' H' s r c => rd_lst r c) fun _ _ _ _ _ _ => trivial)⟩
  · exact q1.elim
theorem sqL_step {K : PySem.W.Frag} {m m' : Mem} {H H' : Hp} {a : Addr} {xs : List V} (s : Step m H m' H') (n : Nm m a) (h : SqL K H a xs) : SqL K H' a xs := by
  rcases h with (h | ⟨ob, h⟩) | h
  · exact .inl (.inl (s a _ h n).1)
  · exact .inl (.inr ⟨ob, (s a _ h n).1⟩)
  · exact .inr h
theorem mi_hid (h : MX X B iter p) : MI X B tg iter (iH p) := piImp (pi_list h) fun σ H R ⟨ρ, m, Rm, A, q, k⟩ => by
  refine ⟨ρ, m, _, A, q, fun d m1 v H1 q1 r1 t1 x1 => ?_⟩
  unfold refAt at q1
  split at q1
  · obtain ⟨ds, m0, e, sb, n, q1⟩ := q1
    obtain ⟨xs, hx, rr⟩ := rd_lst r1 e
    have r0 := r1.sub sb
    refine ⟨_, Rep.ref_iff.mp x1, ⟨xs, hx⟩, k _ _ _ _ _ q1 r0 (t1.sub sb) (good_list (fun m' H' s r c => ⟨xs, sqL_step s n hx, rr.stay (s.tups r0)⟩) fun _ _ _ _ _ _ => trivial)⟩
  · exact q1.elim
theorem mi_tup (h : MX X B iter p) : MI X B tg iter (iT p) := piImp (pi_tup h) fun σ H R ⟨ρ, m, Rm, A, q, k⟩ => by
  refine ⟨ρ, m, _, A, q, fun d m1 v H1 q1 r1 t1 x1 => ?_⟩
  unfold tupAt at q1
  split at q1
  · rename_i ds
    obtain ⟨a, xs, e, hT, rr⟩ := Rep.tup_iff.mp x1
    refine ⟨a, e, ⟨xs, hT.sq⟩, k _ _ _ _ (Itt X.K a) q1 r1 t1 fun i m' H' s r c => ?_⟩
    have hx : SqT X.K H' a xs := ((s.tups r1) _ _ _ hT).sq
    have rr' := rr.stay (s.tups r1)
    refine ⟨fun d e => ?_, fun e => ⟨xs, hx, by rw [← rr'.length]; exact e⟩⟩
    obtain ⟨v, e2, x2⟩ := rr'.get e
    refine ⟨⟨xs, v, hx, e2⟩, fun x H2 y => ?_⟩
    obtain ⟨e3, y⟩ := y
    subst e3
    have e4 := y xs hx
    rw [e2] at e4; cases e4
    exact ⟨r, Step.refl, x2⟩
  · exact q1.elim
/-- ints in a row -/
def rangeD (lo : Int) (n : Nat) : List D := (List.range n).map fun i => .int (lo + (i : Nat))
theorem good_range {K : PySem.W.Frag} {lo : Int} {n : Nat} {m1 : Mem} {H1 : Hp} : Good K (Itr lo n) (rangeD lo n) (fun _ => True) m1 H1 := fun i m' H' s r k => by
  refine ⟨fun d e => ?_, fun e => ?_⟩
  · unfold rangeD at e
    rw [List.getElem?_map] at e
    obtain ⟨j, e1, e2⟩ := Option.map_eq_some_iff.mp e
    have hj : i < n := by
      have := (List.getElem?_eq_some_iff.mp e1).1
      simpa using this
    have : j = i := by
      rw [List.getElem?_range hj] at e1
      exact (Option.some.inj e1).symm
    subst this e2
    exact ⟨hj, fun x H2 y => ⟨by rw [y.1]; exact r, by rw [y.1]; exact Step.refl, by rw [y.2]; exact Rep.int⟩⟩
  · unfold rangeD at e
    simp at e
    exact e
def iR1 (t : TAm) : TIm := fun ρ m R => t ρ m fun ds m1 => int1At ds fun j => -(2 ^ 62) ≤ j ∧ j < 2 ^ 62 ∧ R (rangeD 0 j.toNat) (fun _ => True) m1
def iR2 (t : TAm) : TIm := fun ρ m R => t ρ m fun ds m1 => int2At ds fun i j => (-(2 ^ 62) ≤ i ∧ i < 2 ^ 62 ∧ -(2 ^ 62) ≤ j ∧ j < 2 ^ 62) ∧ R (rangeD i (j - i).toNat) (fun _ => True) m1
theorem mi_range1 {p pos : Pos} (hm : X.mg "range" = none) (ha : MA X B [a] la) (hg : Gl X "range" := by rfl) (hs : starEach [a] X.env = [(false, eval a X.env)] := by rfl) : MI X B tg (.Call (.Name "range" p) [a] [] pos) (iR1 la) := piImp (pi_range1 hg hm ha hs) fun σ H R ⟨ρ, m, Rm, A, q, k⟩ => by
  refine ⟨ρ, m, _, A, q, fun ds m1 vs H1 q1 r1 t1 x1 => ?_⟩
  unfold int1At at q1
  split at q1
  · obtain ⟨v, e, y⟩ := reps1 x1
    rw [Rep.int_iff.mp y] at e
    exact ⟨_, e, q1.1, q1.2.1, k _ _ _ _ _ q1.2.2 r1 t1 good_range⟩
  · exact q1.elim
theorem mi_range2 {p pos : Pos} (hm : X.mg "range" = none) (ha : MA X B [a, b] la) (hg : Gl X "range" := by rfl) (hs : starEach [a, b] X.env = [(false, eval a X.env), (false, eval b X.env)] := by rfl) (hs2 : starEach [b] X.env = [(false, eval b X.env)] := by rfl) :
    MI X B tg (.Call (.Name "range" p) [a, b] [] pos) (iR2 la) := piImp (pi_range2 hg hm ha hs hs2) fun σ H R ⟨ρ, m, Rm, A, q, k⟩ => by
  refine ⟨ρ, m, _, A, q, fun ds m1 vs H1 q1 r1 t1 x1 => ?_⟩
  unfold int2At at q1
  split at q1
  · obtain ⟨v, w, e, y, z⟩ := reps2 x1
    rw [Rep.int_iff.mp y, Rep.int_iff.mp z] at e
    exact ⟨_, _, e, q1.1, k _ _ _ _ _ q1.2 r1 t1 good_range⟩
  · exact q1.elim

/-! ### for -/
def forC (chk : Mem → Prop) (g : TGm) (tb : TSm) (E : EndsM) : List D → StM → Mem → Prop
  | [], ρ, m => chk m ∧ E.nx ρ m
  | d :: r, ρ, m => chk m ∧ g d ρ m fun ρ2 m2 => tb { E with nx := forC chk g tb E r, ct := forC chk g tb E r, bk := E.nx } ρ2 m2
theorem forC.chk {chk : Mem → Prop} {g : TGm} {tb : TSm} {E : EndsM} {ds : List D} {ρ : StM} {m : Mem} (h : forC chk g tb E ds ρ m) : chk m := by
  cases ds with
  | nil => exact h.1
  | cons d r => exact h.1
def wFor (ti : TIm) (g : TGm) (tb : TSm) : TSm := fun E ρ m => ti ρ m fun ds chk m1 => forC chk g tb E ds ρ m1
theorem for_go {K : PySem.W.Frag} {ti : TIm} {g : TGm} {tb : TSm} {D : Ends} {σ : St} {H : Hp} (h : uS K B (wFor ti g tb) D σ H) : tFor (uI K B ti) (uG K B g) (uS K B tb) D σ H := by
  obtain ⟨ρ, m, E, A, q, n, rt, bk, ct⟩ := h
  refine ⟨ρ, m, _, A, q, fun ds chk m1 H1 J q1 r1 t1 gd => ?_⟩
  refine ⟨fun i mm σ' H' => mm = ds.length - i ∧ i ≤ ds.length ∧ ∃ ρ' m', At K B σ' H' ρ' m' ∧ Step m1 H1 m' H' ∧ forC chk g tb E (ds.drop i) ρ' m', ⟨ds.length, by simp, Nat.zero_le _, ρ, m1, A.step r1 t1, Step.refl, by simpa using q1⟩, ?_⟩
  rintro i mm σ' H' ⟨rfl, hi, ρ', m', A', t', q'⟩
  have G := gd i m' H' t' A'.r q'.chk
  by_cases hlt : i < ds.length
  · refine .inr ?_
    have e : ds[i]? = some ds[i] := by simp [hlt]
    obtain ⟨go, yl⟩ := G.1 _ e
    rw [List.drop_eq_getElem_cons hlt] at q'
    refine ⟨go, _, fun σ2 H2 z => ⟨ds.length - (i + 1), by omega, z⟩, fun x H2 y => ?_⟩
    obtain ⟨r2, t2, x2⟩ := yl x H2 y
    have t02 := t1.trans (t'.trans t2)
    refine ⟨_, ρ', m', _, x2, A'.step r2 t2, q'.2, ?_⟩
    intro ρ3 m3 σ3 H3 q3 r3 t3 s3
    have t03 := t02.trans t3
    refine ⟨ρ3, m3, _, (A'.step r2 t2).step' r3 t3 s3, q3, ?_, fun d m4 v H4 q4 r4 t4 x4 => rt d m4 v H4 q4 r4 (t03.trans t4) x4, n.trans t03, ?_⟩
    · intro ρ4 m4 σ4 H4 q4 r4 t4 s4
      exact ⟨rfl, hlt, ρ4, m4, ((A'.step r2 t2).step' r3 t3 s3).step' r4 t4 s4, t'.trans (t2.trans (t3.trans t4)), q4⟩
    · intro ρ4 m4 σ4 H4 q4 r4 t4 s4
      exact ⟨rfl, hlt, ρ4, m4, ((A'.step r2 t2).step' r3 t3 s3).step' r4 t4 s4, t'.trans (t2.trans (t3.trans t4)), q4⟩
  · have e : i = ds.length := by omega
    subst e
    rw [List.drop_length] at q'
    exact .inl ⟨G.2 (Nat.le_refl _), n _ _ _ _ q'.2 A'.r (t1.trans t') A'.s⟩
theorem ms_for {ti : TIm} {g : TGm} {tb : TSm} (hp : PassesOwn (model X.prog X.w) X.A X.env X.xe) (hc : X.calm = true) (hi : MI X B tg iter ti) (hg : MG X B tg g) (hb : MSs X B body tb)
    (hs : ∀ x, foldedSetIterable iter X.env x = pure x := by intro _; rfl) : MS X B (.For tg iter body [] pos) (wFor ti g tb) := psImp (ps_for hp hc hi hg hb hs) fun D σ H h => for_go h

/-! ### while: by a word of the turns left -/
def wWhile (c : TTm) (tb : TSm) : TSm := fun E ρ m => ∃ W : Nat → StM → Mem → Prop, (∃ n, W n ρ m) ∧ ∀ n ρ m, W n ρ m →
  c ρ m fun b m1 => if b = true then tb { E with nx := fun ρ' m' => ∃ n', n' < n ∧ W n' ρ' m', ct := fun ρ' m' => ∃ n', n' < n ∧ W n' ρ' m', bk := E.nx } ρ m1 else E.nx ρ m1
theorem ms_while {c : TTm} {tb : TSm} (hp : PassesOwn (model X.prog X.w) X.A X.env X.xe) (hc : MT X B e c) (hb : MSs X B body tb) : MS X B (.While e body [] pos) (wWhile c tb) := psImp (ps_while hp hc hb) fun D σ H ⟨ρ, m, E, A, q, n, rt, bk, ct⟩ => by
  obtain ⟨W, ⟨n0, w0⟩, turn⟩ := q
  refine ⟨fun k σ' H' => ∃ ρ' m', At X.K B σ' H' ρ' m' ∧ Step m H m' H' ∧ W k ρ' m', ⟨n0, ρ, m, A, Step.refl, w0⟩, ?_⟩
  rintro k σ' H' ⟨ρ', m', A', t', w'⟩
  refine ⟨ρ', m', _, A', turn k ρ' m' w', fun d m2 H2 q2 r2 t2 => ?_⟩
  have t02 := t'.trans t2
  cases d with
  | false => simp only [Bool.false_eq_true, if_false] at q2 ⊢; exact n _ _ _ _ q2 r2 t02 (A'.step r2 t2).s
  | true =>
    simp only [if_true] at q2 ⊢
    refine ⟨fun σ3 H3 => ∃ k', k' < k ∧ ∃ ρ' m', At X.K B σ3 H3 ρ' m' ∧ Step m H m' H3 ∧ W k' ρ' m', fun σ3 H3 ⟨k', lt, z⟩ => ⟨k', lt, z⟩, ?_⟩
    refine ⟨ρ', m2, _, A'.step r2 t2, q2, ?_, fun d m4 v H4 q4 r4 t4 x4 => rt d m4 v H4 q4 r4 (t02.trans t4) x4, n.trans t02, ?_⟩
    · intro ρ4 m4 σ4 H4 ⟨n', lt, q4⟩ r4 t4 s4
      exact ⟨n', lt, ρ4, m4, (A'.step r2 t2).step' r4 t4 s4, t02.trans t4, q4⟩
    · intro ρ4 m4 σ4 H4 ⟨n', lt, q4⟩ r4 t4 s4
      exact ⟨n', lt, ρ4, m4, (A'.step r2 t2).step' r4 t4 s4, t02.trans t4, q4⟩

/-! ### comprehensions -/
def MTs (X : Cx) (B : Bs) (ifs : List Expr) (t : TTm) : Prop := PTs X ifs (uT X.K B t)
def wYes : TTm := fun _ m Q => Q true m
theorem mts_nil : MTs X B [] wYes := ⟨fun pins s σ H Q I ⟨ρ, m, Qm, A, q, k⟩ => pts_nil.run pins s σ H Q I (k _ _ _ q A.r Step.refl)⟩
theorem mts_one (h : MT X B c tc) : MTs X B [c] tc := pts_one h
def lcC (chk : Mem → Prop) (g : TGm) (tt : TTm) (te : TEm) (vs : List Nat) (ρ : StM) (Q : List D → Mem → Prop) : List D → List D → Mem → Prop
  | [], acc, m => chk m ∧ Q acc m
  | d :: r, acc, m => chk m ∧ g d (wipeM ρ vs) m fun ρ2 m2 => wipeM ρ2 vs = wipeM ρ vs ∧ tt ρ2 m2 fun b m3 => if b = true then te ρ2 m3 fun y m4 => acc.length < sizeLine ∧ lcC chk g tt te vs ρ Q r (acc ++ [y]) m4 else lcC chk g tt te vs ρ Q r acc m3
theorem lcC.chk {chk : Mem → Prop} {g : TGm} {tt : TTm} {te : TEm} {vs : List Nat} {ρ : StM} {Q : List D → Mem → Prop} {ds acc : List D} {m : Mem} (h : lcC chk g tt te vs ρ Q ds acc m) : chk m := by
  cases ds with
  | nil => exact h.1
  | cons d r => exact h.1
/-- the names of a target, forgotten again -/
structure GOk (K : PySem.W.Frag) (B : Bs) (g : TGm) (g0 : TG) (vs : List Nat) : Prop where
  go : ∀ d v ρ σ m H (Qm : StM → Mem → Prop), Rep K H d v → At K B σ H ρ m → g d ρ m Qm → ∀ (Q : St → Hp → Prop), (∀ ρ' m' σ' H', Qm ρ' m' → RM K H' m' → Step m H m' H' → Ss K H' ρ' σ' → wipe σ' vs = wipe σ vs → Q σ' H') → g0 v σ H Q
theorem wipe_cons {σ : St} {v : Nat} {vs : List Nat} : wipe σ (v :: vs) = (wipe σ vs).set v none := rfl
theorem wipe_set {σ : St} {i : Nat} {o : Option V} : ∀ {vs : List Nat}, i ∈ vs → wipe (σ.set i o) vs = wipe σ vs
  | [], h => by simp at h
  | v :: vs, h => by
    rw [wipe_cons, wipe_cons]
    by_cases hi : i ∈ vs
    · rw [wipe_set hi]
    · have e : i = v := by simpa [hi] using h
      subst e
      have z : ∀ ws : List Nat, i ∉ ws → wipe (σ.set i o) ws = (wipe σ ws).set i o := by
        intro ws
        induction ws with
        | nil => intro _; rfl
        | cons w ws ih =>
          intro hn
          rw [wipe_cons, wipe_cons]
          rw [ih (fun z => hn (List.mem_cons_of_mem _ z)), List.set_comm]
          rintro rfl; exact hn List.mem_cons_self
      rw [z vs hi, List.set_set]
theorem gok_name {K : PySem.W.Frag} {i : Nat} {vs : List Nat} (h : i ∈ vs) : GOk K B (gN i) (gName i) vs := ⟨fun d v ρ σ m H Qm x A q Q k => k _ _ _ _ q A.r Step.refl (Ss.set x i A.s) (wipe_set h)⟩
structure GsOk (K : PySem.W.Frag) (B : Bs) (g : TGsm) (g0 : TGs) (vs : List Nat) : Prop where
  go : ∀ d v ρ σ m H (Qm : StM → Mem → Prop), Reps K H d v → At K B σ H ρ m → g d ρ m Qm → ∀ (Q : St → Hp → Prop), (∀ ρ' m' σ' H', Qm ρ' m' → RM K H' m' → Step m H m' H' → Ss K H' ρ' σ' → wipe σ' vs = wipe σ vs → Q σ' H') → g0 v σ H Q
theorem gsok_nil {K : PySem.W.Frag} {vs : List Nat} : GsOk K B gNils gNil vs := ⟨fun d v ρ σ m H Qm x A ⟨e, q⟩ Q k => by subst e; exact ⟨Reps.nil_iff.mp x, k _ _ _ _ q A.r Step.refl A.s rfl⟩⟩
theorem gsok_cons {K : PySem.W.Frag} {vs : List Nat} {g : TGm} {g0 : TG} {h : TGsm} {h0 : TGs} (a : GOk K B g g0 vs) (b : GsOk K B h h0 vs) : GsOk K B (gConss g h) (gCons g0 h0) vs := ⟨fun d v ρ σ m H Qm x A q Q k => by
  unfold gConss at q
  split at q
  · rename_i d r
    obtain ⟨v, w, e, x1, x2⟩ := Reps.cons_iff.mp x
    refine ⟨v, w, e, a.go _ _ _ _ _ _ _ x1 A q _ fun ρ1 m1 σ1 H1 q1 r1 t1 s1 w1 => ?_⟩
    exact b.go _ _ _ _ _ _ _ (x2.stay (t1.tups A.r)) (A.step' r1 t1 s1) q1 _ fun ρ2 m2 σ2 H2 q2 r2 t2 s2 w2 => k _ _ _ _ q2 r2 (t1.trans t2) s2 (w2.trans w1)
  · exact q.elim⟩
theorem gok_tup {K : PySem.W.Frag} {n : Nat} {vs : List Nat} {h : TGsm} {h0 : TGs} (b : GsOk K B h h0 vs) : GOk K B (gTupM n h) (gTup K n h0) vs := ⟨fun d v ρ σ m H Qm x A q Q k => by
  unfold gTupM at q
  split at q
  · obtain ⟨a, xs, e, s, r⟩ := Rep.tup_iff.mp x
    exact ⟨a, xs, e, s.sq, by rw [← r.length]; exact q.1, b.go _ _ _ _ _ _ _ r A q.2 _ k⟩
  · exact q.elim⟩
def wLc (ti : TIm) (g : TGm) (tt : TTm) (te : TEm) (vs : List Nat) : TEm := fun ρ m Q => ti ρ m fun ds chk m1 => lcC chk g tt te vs ρ (fun acc m' => newO (.lst acc) m' Q) ds [] m1
theorem lc_gen {K : PySem.W.Frag} {ti : TIm} {g : TGm} {g0 : TG} {tt : TTm} {te : TEm} {vs : List Nat} {σ : St} {H : Hp} {Q : VK} {ρ : StM} {m : Mem} {QA : List D → Mem → Prop} (hg : GOk K B g g0 vs) (A : At K B σ H ρ m)
    (q : ti ρ m fun ds chk m1 => lcC chk g tt te vs ρ QA ds [] m1) (k : ∀ acc m' L H', QA acc m' → m' L = none → RM K H' (mput m' L (.lst acc)) → Step m H (mput m' L (.lst acc)) H' → (∃ xs, H' L = some (.lst xs)) → Q (.ref L) H') : tLc (uI K B ti) g0 (uT K B tt) (uE K B te) vs σ H Q := by
  refine ⟨ρ, m, _, A, q, fun ds chk m1 H1 J q1 r1 t1 gd => ?_⟩
  intro L hL
  have hL1 : m1 L = none := r1.out hL
  -- at each turn: the list at L, hidden
  refine ⟨fun i mm H' => mm = ds.length - i ∧ i ≤ ds.length ∧ ∃ m' acc xs, RM K H' m' ∧ Step m1 H1 m' H' ∧ Nm m' L ∧ H' L = some (.lst xs) ∧ Reps K H' acc xs ∧ lcC chk g tt te vs ρ QA (ds.drop i) acc m',
    ⟨ds.length, by simp, Nat.zero_le _, m1, [], [], r1.hid hL, Step.hid r1 hL, .inl hL1, upd_same, Reps.nil, by simpa using q1⟩, ?_⟩
  rintro i mm H' ⟨rfl, hi, m', acc, xs, r', t', nL, eL, ra, q'⟩
  have G := gd i m' H' t' r' q'.chk
  by_cases hlt : i < ds.length
  · refine .inr ?_
    have e : ds[i]? = some ds[i] := by simp [hlt]
    obtain ⟨go, yl⟩ := G.1 _ e
    rw [List.drop_eq_getElem_cons hlt] at q'
    refine ⟨go, fun H2 => ∃ m' acc xs, RM K H2 m' ∧ Step m1 H1 m' H2 ∧ Nm m' L ∧ H2 L = some (.lst xs) ∧ Reps K H2 acc xs ∧ lcC chk g tt te vs ρ QA (ds.drop (i + 1)) acc m', fun H2 z => ⟨ds.length - (i + 1), by omega, rfl, hlt, z⟩, fun x H2 y => ?_⟩
    obtain ⟨r2, t2, x2⟩ := yl x H2 y
    have A2 : At K B (wipe σ vs) H2 (wipeM ρ vs) m' := ⟨((A.s.wipe vs).stay (t1.tups A.r)).stay ((t'.trans t2).tups r1), r2, B.cl _ _ _ _ A.b (t1.trans (t'.trans t2))⟩
    refine hg.go _ _ _ _ _ _ _ x2 A2 q'.2 _ fun ρ3 m3 σ3 H3 ⟨wm, q3⟩ r3 t3 s3 w3 => ?_
    have ww : wipe (wipe σ vs) vs = wipe σ vs := by
      have z : ∀ (σ : St) (i : Nat) (ws : List Nat), i ∈ ws → (wipe σ ws).set i none = wipe σ ws := by
        intro σ i ws
        induction ws with
        | nil => intro h; simp at h
        | cons w ws ih =>
          intro h
          rw [wipe_cons]
          by_cases e : i = w
          · subst e; rw [List.set_set]
          · have : i ∈ ws := by simpa [e] using h
            rw [List.set_comm _ _ (Ne.symm e), ih this]
      have z2 : ∀ (ws us : List Nat), (∀ i ∈ ws, i ∈ us) → wipe (wipe σ us) ws = wipe σ us := by
        intro ws
        induction ws with
        | nil => intro us _; rfl
        | cons w ws ih =>
          intro us h
          rw [wipe_cons]
          rw [ih us (fun i hi => h i (List.mem_cons_of_mem _ hi)), z σ w us (h w List.mem_cons_self)]
      exact z2 vs vs fun _ h => h
    refine ⟨w3.trans ww, ρ3, m3, _, A2.step' r3 t3 s3, q3, fun bb m4 H4 q4 r4 t4 => ?_⟩
    have tA : Step m' H' m4 H4 := t2.trans (t3.trans t4)
    cases bb with
    | false =>
      simp only [Bool.false_eq_true, if_false] at q4 ⊢
      obtain ⟨e5, n5⟩ := tA L _ eL nL
      exact ⟨m4, acc, xs, r4, t'.trans tA, n5, e5, ra.stay (tA.tups r'), q4⟩
    | true =>
      simp only [if_true] at q4 ⊢
      refine ⟨ρ3, m4, _, (A2.step' r3 t3 s3).step r4 t4, q4, fun yd m5 yv H5 ⟨z5, q5⟩ r5 t5 x5 => ?_⟩
      have tB := tA.trans t5
      obtain ⟨e5, n5⟩ := tB L _ eL nL
      have ra5 := ra.stay (tB.tups r')
      have tC : Step m5 H5 m5 (upd H5 L (.lst (xs ++ [yv]))) → True := fun _ => trivial
      -- the hidden list is written
      have ts : TupS K H5 (upd H5 L (.lst (xs ++ [yv]))) := by
        have ne : ∀ a o, H5 a = some o → (∀ z, o ≠ .lst z) → upd H5 L (.lst (xs ++ [yv])) a = some o := fun a o h1 h2 => by
          rw [upd_ne]; exact h1
          rintro rfl; rw [e5] at h1; cases h1; exact h2 _ rfl
        intro a ys n hy
        rcases hy with hy | ⟨z, hy⟩
        · exact .inl (ne _ _ hy fun _ z => by cases z)
        · refine .inr ⟨z, ?_⟩
          rcases hy with (hy | ⟨ob, hy⟩) | hy
          · exact .inl (.inl (ne _ _ hy fun _ z => by cases z))
          · exact .inl (.inr ⟨ob, ne _ _ hy fun _ z => by cases z⟩)
          · exact .inr hy
      refine ⟨xs, e5, by rw [← ra5.length]; exact z5, m5, acc ++ [yd], xs ++ [yv], ?_, ?_, n5, upd_same, (ra5.append (Reps.cons x5 Reps.nil)).stay ts, q5⟩
      · intro a o ho
        obtain ⟨w, h1, h2⟩ := r5 a o ho
        have ne : a ≠ L := by
          rintro rfl
          rcases n5 with n5 | ⟨o', n5⟩
          · rw [n5] at ho; cases ho
          · rw [n5] at ho; cases ho
            obtain ⟨ob, v, e6, _⟩ := h2
            rw [e5] at h1; cases h1; cases e6
        exact ⟨w, by rw [upd_ne ne]; exact h1, h2.stay ts⟩
      · intro a w h1 n1
        have ne : a ≠ L := by rintro rfl; rw [hL] at h1; cases h1
        obtain ⟨h2, n2⟩ := (t'.trans tB) a w h1 n1
        exact ⟨by rw [upd_ne ne]; exact h2, n2⟩
  · have e : i = ds.length := by omega
    subst e
    rw [List.drop_length] at q'
    refine .inl ⟨G.2 (Nat.le_refl _), ?_⟩
    have mL : m' L = none := by
      rcases nL with h | ⟨o, h⟩
      · exact h
      · obtain ⟨w, h1, ob, v, e6, _⟩ := r' L _ h
        rw [eL] at h1; cases h1; cases e6
    refine k _ _ _ _ q'.2 mL ?_ ?_ ⟨_, eL⟩
    · intro a o ho
      by_cases ne : a = L
      · subst ne
        rw [mput_same] at ho; cases ho
        exact ⟨_, eL, xs, rfl, ra⟩
      · rw [mput_ne ne] at ho
        exact r' a o ho
    · intro a w h1 n1
      obtain ⟨h2, n2⟩ := t1 a w h1 n1
      have ne : a ≠ L := by rintro rfl; rw [hL] at h2; cases h2
      obtain ⟨h3, n3⟩ := t' a w h2 n2
      refine ⟨h3, ?_⟩
      rcases n3 with n3 | ⟨o, n3⟩
      · exact .inl (by rw [mput_ne ne]; exact n3)
      · exact .inr ⟨o, by rw [mput_ne ne]; exact n3⟩
theorem lc_go {K : PySem.W.Frag} {ti : TIm} {g : TGm} {g0 : TG} {tt : TTm} {te : TEm} {vs : List Nat} {σ : St} {H : Hp} {Q : VK} (hg : GOk K B g g0 vs) (h : uE K B (wLc ti g tt te vs) σ H Q) : tLc (uI K B ti) g0 (uT K B tt) (uE K B te) vs σ H Q := by
  obtain ⟨ρ, m, Qm, A, q, k⟩ := h
  exact lc_gen hg A q fun acc m' L H' qa mL r t _ => k _ _ _ _ (qa L mL) r t Rep.ref
theorem mx_lc {elt : Expr} {ifs : List Expr} {scope : Scope} {own : List (Str × Nat)} {ti : TIm} {g : TGm} {g0 : TG} {tt : TTm} {te : TEm} (hc : X.calm = true) (hN : X.N.Nodup) (hi : MI X B tg iter ti) (ok : BlkOk X.N X.env.scope scope own)
    (hg : ∀ (s : Shared) (H : Hp) (C : Addr) (cl : List (Str × Addr)) (fp : List Addr), PG (X.blk s H scope (compEnvC scope cl C X.env) fp) tg g0) (gk : GOk X.K B g g0 (own.map (·.2)))
    (ht : ∀ (s : Shared) (H : Hp) (C : Addr) (cl : List (Str × Addr)) (fp : List Addr), MTs (X.blk s H scope (compEnvC scope cl C X.env) fp) B ifs tt)
    (he : ∀ (s : Shared) (H : Hp) (C : Addr) (cl : List (Str × Addr)) (fp : List Addr), MX (X.blk s H scope (compEnvC scope cl C X.env) fp) B elt te) (hs : ∀ x, foldedSetIterable iter X.env x = pure x := by intro _; rfl) :
    MX X B (.ListComp elt [⟨tg, iter, ifs, 0⟩] scope pos) (wLc ti g tt te (own.map (·.2))) := peImp (pe_lc (tt := uT X.K B tt) (te := uE X.K B te) hc hN hi ok hg ht he hs) fun σ H Q h => lc_go gk h
theorem ms_setLc {i : Nat} {y : Str} {py : Pos} {spos : Pos} {elt : Expr} {ifs : List Expr} {scope : Scope} {own : List (Str × Nat)} {ti : TIm} {g : TGm} {g0 : TG} {tt : TTm} {te : TEm} (hc : X.calm = true) (hN : X.N.Nodup) (hy : X.N[i]? = some y) (hyl : X.env.scope.names.lookup y = some .local)
    (hsw : swapsWith (.ListComp elt [⟨tg, iter, ifs, 0⟩] scope pos) (some (.Name y py)) spos.line X.env = pure true) (hi : MI X B tg iter ti) (ok : BlkOk X.N X.env.scope scope own)
    (hg : ∀ (s : Shared) (H : Hp) (C : Addr) (cl : List (Str × Addr)) (fp : List Addr), PG (X.blk s H scope (compEnvC scope cl C X.env) fp) tg g0) (gk : GOk X.K B g g0 (own.map (·.2)))
    (ht : ∀ (s : Shared) (H : Hp) (C : Addr) (cl : List (Str × Addr)) (fp : List Addr), MTs (X.blk s H scope (compEnvC scope cl C X.env) fp) B ifs tt)
    (he : ∀ (s : Shared) (H : Hp) (C : Addr) (cl : List (Str × Addr)) (fp : List Addr), MX (X.blk s H scope (compEnvC scope cl C X.env) fp) B elt te) (hs : ∀ x, foldedSetIterable iter X.env x = pure x := by intro _; rfl) :
    MS X B (.Assign [.Name y py] (.ListComp elt [⟨tg, iter, ifs, 0⟩] scope pos) spos) (wSet i (wLc ti g tt te (own.map (·.2)))) := psImp (ps_setLc (tt := uT X.K B tt) (te := uE X.K B te) hc hN hy hyl hsw hi ok hg ht he hs) fun D σ H ⟨ρ, m, E, A, q, n, _⟩ =>
  lc_go gk ⟨ρ, m, _, A, q, fun d m1 v H1 q1 r1 t1 x1 => n _ _ _ _ q1 r1 t1 (Ss.set x1 i (A.s.stay (t1.tups A.r)))⟩
end
end Mm
namespace Mm
open PySem L2
open PyProof.Rows (envOfC)

/-! ### promises -/
abbrev XM := Addr → Mem → Prop
abbrev SpM := List D → Mem → KM → XM → Prop
def liftSp (K : PySem.W.Frag) (sp : SpM) : Sp := fun vs H Q E => ∃ ds m Qm Em, Reps K H ds vs ∧ RM K H m ∧ sp ds m Qm Em ∧
  (∀ d m' v H', Qm d m' → RM K H' m' → Step m H m' H' → Rep K H' d v → Q v H') ∧ ∀ C m' H', Em C m' → RM K H' m' → Step m H m' H' → E (.ref C) none H'
abbrev FnM (P : Program) (w : World) (K : PySem.W.Frag) (mg : Str → Option Value) (base : Heap) (CX : CXT) (k : Nat) (f : Addr) (fd : FuncData) (ps : List Str) (sp : SpM) : Prop := FnOk P w K mg base CX k f fd ps (liftSp K sp)
/-- how an exception is wished for in a body -/
def uX (K : PySem.W.Frag) (B : Bs) (Em : XM) : XK := fun cls d H' => ∃ C m', cls = .ref C ∧ d = none ∧ Em C m' ∧ RM K H' m' ∧ B.P m' H'
def noX : XM := fun _ _ => False
def wCall (sp : SpM) (Em : XM) (t : TAm) : TEm := fun ρ m Q => t ρ m fun ds m1 => sp ds m1 Q Em
section
variable {X : Cx} {B : Bs} {e o : Expr} {es : List Expr} {pos p apos : Pos} {la : TAm} {pa : TEm} {CX : CXT} {k : Nat} {f C : Addr} {fd : FuncData} {ps : List Str} {sp : SpM} {Em : XM} {x n : Str}
theorem call_go {K : PySem.W.Frag} {σ : St} {H : Hp} {Q : VK} (h : uE K B (wCall sp Em la) σ H Q) : tCall (liftSp K sp) [] (uX K B Em) (uA K B la) σ H Q := by
  obtain ⟨ρ, m, Qm, A, q, k⟩ := h
  refine ⟨ρ, m, _, A, q, fun ds m1 vs H1 q1 r1 t1 x1 => ?_⟩
  show liftSp K sp (vs ++ []) H1 Q (uX K B Em)
  rw [List.append_nil]
  exact ⟨ds, m1, Qm, Em, x1, r1, q1, fun d m' v H' q2 r2 t2 x2 => k d m' v H' q2 r2 (t1.trans t2) x2, fun C m' H' q2 r2 t2 => ⟨C, m', rfl, rfl, q2, r2, B.cl _ _ _ _ A.b (t1.trans t2)⟩⟩
theorem mx_call (F : FnM X.prog X.w X.K X.mg X.base CX k f fd ps sp) (hr : Room k X.A) (hm : X.mg x = some (.ref f)) (hk : PySem.W.keepIn X.K (.ref f) = true) (hb : Binds X.K fd ps []) (hx : Passes CX X (uX X.K B Em))
    (ha : MA X B (e :: es) la) (hg : Gl X x := by rfl) (hdb : (x == ("__debug__" : Str)) = false := by decide) (he : starEach (e :: es) X.env = (false, eval e X.env) :: starEach es X.env := by rfl) (hpl : (backTo pos (starEach es X.env)).any (·.1) = false := by rfl) :
    MX X B (.Call (.Name x p) (e :: es) [] pos) (wCall sp Em la) := peImp (pe_call F hr hg hm hk hb .nil hx ha hdb he hpl) fun σ H Q h => call_go h
theorem mx_call0 (F : FnM X.prog X.w X.K X.mg X.base CX k f fd ps sp) (hr : Room k X.A) (hm : X.mg x = some (.ref f)) (hk : PySem.W.keepIn X.K (.ref f) = true) (hb : Binds X.K fd ps []) (hx : Passes CX X (uX X.K B Em))
    (hg : Gl X x := by rfl) (hdb : (x == ("__debug__" : Str)) = false := by decide) :
    MX X B (.Call (.Name x p) [] [] pos) (wCall sp Em wNil) := peImp (pe_call0 F hr hg hm hk hb .nil hx hdb) fun σ H Q ⟨ρ, m, Qm, A, q, k⟩ => by
  exact ⟨[], m, Qm, Em, Reps.nil, A.r, q, k, fun C m' H' q2 r2 t2 => ⟨C, m', rfl, rfl, q2, r2, B.cl _ _ _ _ A.b t2⟩⟩
theorem pass0M {X : Cx} {E : XK} : Passes CX0 X E := fun _ _ _ _ _ _ _ h => h.elim

/-! ### a def keeps its promise -/
def stepB (m : Mem) (H : Hp) : Bs := ⟨fun m' H' => Step m H m' H', fun _ _ _ _ a b => a.trans b⟩
def startM (N : List Str) (ds : List D) : StM := ds.map some ++ List.replicate (N.length - ds.length) none
theorem ss_start {K : PySem.W.Frag} {H : Hp} (N : List Str) : ∀ {ds : List D} {vs : List V}, Reps K H ds vs → Ss K H (startM N ds) (L2.start N vs) := by
  intro ds vs h
  have e := h.length
  unfold startM L2.start
  rw [e]
  generalize N.length - vs.length = n
  clear e
  induction ds generalizing vs with
  | nil =>
    rw [Reps.nil_iff.mp h]
    induction n with
    | zero => exact .nil
    | succ n ih => exact .cons trivial ih
  | cons d ds ih =>
    obtain ⟨v, r, e, x, y⟩ := Reps.cons_iff.mp h
    subst e
    exact .cons x (ih y)
/-- what is handed back: some of the memory may be forgotten -/
def RtM (Q : KM) : KM := fun d m' => ∃ m0, Sub m0 m' ∧ Q d m0
theorem RtM.mk {Q : KM} {d : D} {m : Mem} (h : Q d m) : RtM Q d m := ⟨m, Sub.refl, h⟩
theorem fn_m {P : Program} {w : World} {K : PySem.W.Frag} {mg : Str → Option Value} {base : Heap} {qual : Str} {st : Stmt} {N : List Str} (F : Fun K x qual st f fd) (S : FnScope N ps (defScope st)) (len : ∀ ds m Q E, sp ds m Q E → ds.length = ps.length)
    (hbody : ∀ (cdv : Value) (A : Around) (outer : List Env) (s : Shared) (H : Hp) (ds : List D) (m : Mem) (Q : KM) (E : XM) (E' : XK), Room k (A.deeper (envOfC qual (defScope st) s.heap.objs.size f cdv)) → sp ds m Q E →
      ∃ p, MSs (cxOf CX0 P w K mg base N qual (defScope st) f cdv A outer s H E').nox (stepB m H) (defBody st) p ∧ p { nx := fun _ m' => RtM Q .non m', rt := RtM Q } (startM N ds) m) : FnM P w K mg base CX0 (k + 1) f fd ps sp := by
  refine F.ok S (fun vs H Q E ⟨ds, m, Qm, Em, x, r, q, _⟩ => by rw [← x.length]; exact len _ _ _ _ q) fun cdv A outer s H vs Q E hr ⟨ds, m, Qm, Em, x, r, q, k1, k2⟩ => ?_
  obtain ⟨p, hp, go⟩ := hbody cdv A outer s H ds m Qm Em E hr q
  refine ⟨_, hp, startM N ds, m, _, ⟨ss_start N x, r, Step.refl⟩, go, ?_, ?_, ?_, ?_⟩
  · intro ρ' m' σ' H' ⟨m0, sb, q'⟩ r' t' s'
    exact k1 _ _ _ _ q' (r'.sub sb) (t'.sub sb) Rep.non
  · intro d m' v H' ⟨m0, sb, q'⟩ r' t' x'
    exact k1 _ _ _ _ q' (r'.sub sb) (t'.sub sb) x'
  · intro ρ' m' σ' H' z; exact z.elim
  · intro ρ' m' σ' H' z; exact z.elim
end

/-! ### dicts -/
def kD : Key → D
  | .inl i => .int i
  | .inr x => .str x
theorem kD_rep {K : PySem.W.Frag} {H : Hp} {k : Key} {v : V} (h : Rep K H (kD k) v) : v = kV k := by
  cases k with
  | inl i => exact Rep.int_iff.mp h
  | inr x => exact Rep.str_iff.mp h
theorem rep_kD {K : PySem.W.Frag} {H : Hp} {k : Key} : Rep K H (kD k) (kV k) := by
  cases k with
  | inl i => exact Rep.int
  | inr x => exact Rep.str
theorem kDs_rep {K : PySem.W.Frag} {H : Hp} : ∀ {ks : List Key} {vs : List V}, Reps K H (ks.map kD) vs → vs = ks.map kV
  | [], _, h => by rw [Reps.nil_iff.mp h]; rfl
  | k :: ks, _, h => by
    obtain ⟨v, r, e, x, y⟩ := Reps.cons_iff.mp h
    rw [e, kD_rep x, kDs_rep y]; rfl
theorem reps_kDs {K : PySem.W.Frag} {H : Hp} : ∀ {ks : List Key}, Reps K H (ks.map kD) (ks.map kV)
  | [] => Reps.nil
  | k :: ks => Reps.cons rep_kD reps_kDs
section
variable {κ : Type} [DecidableEq κ]
def valD (kvs : List (κ × D)) (k : κ) : Option D := (kvs.find? fun kv => decide (kv.1 = k)).map (·.2)
def putD (kvs : List (κ × D)) (k : κ) (v : D) : List (κ × D) :=
  if (kvs.any fun kv => decide (kv.1 = k)) = true then kvs.map (fun kv => if kv.1 = k then (kv.1, v) else kv) else kvs ++ [(k, v)]
variable {K : PySem.W.Frag} {H : Hp}
theorem KVs.val {k : κ} : ∀ {a : List (κ × D)} {b : List (κ × V)}, KVs K H a b → (∀ d, valD a k = some d → ∃ v, valV b k = some v ∧ Rep K H d v) ∧ (valD a k = none → valV b k = none)
  | _, _, .nil => ⟨fun d e => by simp [valD] at e, fun _ => rfl⟩
  | _, _, .cons (a := p) (b := q) (l₁ := as) h r => by
    obtain ⟨i1, i2⟩ := KVs.val (k := k) r
    by_cases e : p.1 = k
    · have e' : q.1 = k := h.1 ▸ e
      refine ⟨fun d z => ?_, fun z => ?_⟩
      · simp [valD, List.find?_cons, e] at z
        subst z
        exact ⟨q.2, valV_pos e', h.2⟩
      · simp [valD, List.find?_cons, e] at z
    · have e' : ¬ q.1 = k := fun z => e (h.1.trans z)
      have z : valD (p :: as) k = valD as k := by simp [valD, List.find?_cons, e]
      rw [z, valV_neg e']
      exact ⟨i1, i2⟩
theorem KVs.length : ∀ {a : List (κ × D)} {b : List (κ × V)}, KVs K H a b → a.length = b.length
  | _, _, .nil => rfl
  | _, _, .cons h r => by simp [KVs.length r]
theorem KVs.put {k : κ} {d : D} {v : V} (hd : Rep K H d v) {a : List (κ × D)} {b : List (κ × V)} (h : KVs K H a b) : KVs K H (putD a k d) (putK b k v) := by
  have e1 : (a.any fun kv => decide (kv.1 = k)) = (b.any fun kv => decide (kv.1 = k)) := by
    induction h with
    | nil => rfl
    | cons h r ih => simp only [List.any_cons, h.1, ih]
  unfold putD putK
  rw [e1]
  split
  · rename_i hh
    clear e1 hh
    induction h with
    | nil => exact .nil
    | @cons p q as bs h r ih =>
      refine .cons ?_ ih
      by_cases e : p.1 = k
      · have e' : q.1 = k := h.1 ▸ e
        simp only [if_pos e, if_pos e']; exact ⟨h.1, hd⟩
      · have e' : ¬ q.1 = k := fun z => e (h.1.trans z)
        simp only [if_neg e, if_neg e']; exact h
  · rename_i hh
    clear e1 hh
    induction h with
    | nil => exact .cons ⟨rfl, hd⟩ .nil
    | cons h r ih => exact .cons h ih
end
/-- what the dict (an object) holds at the datum y -/
def getO (o : O) (y : D) (r : Option D) : Prop := match o with
  | .dK kvs => ∃ k, y = kD k ∧ r = valD kvs k
  | .dT kvs => ∃ ks : List Key, y = .tup (ks.map kD) ∧ ks.length ≠ 1 ∧ ks.length ≠ 5 ∧ r = valD kvs ks
  | _ => False
/-- the object behind a store -/
def putO (o : O) (y d : D) (o' : O) : Prop := match o with
  | .dK kvs => ∃ k, y = kD k ∧ kvs.length < sizeLine ∧ o' = .dK (putD kvs k d)
  | .dT kvs => ∃ ks : List Key, y = .tup (ks.map kD) ∧ ks.length ≠ 1 ∧ ks.length ≠ 5 ∧ kvs.length < sizeLine ∧ o' = .dT (putD kvs ks d)
  | _ => False
section
variable {K : PySem.W.Frag} {H : Hp} {m : Mem} {a : Addr} {o o' : O} {y d : D} {v z : V}
theorem tup_at {ks : List Key} (h : Rep K H (.tup (ks.map kD)) v) (h1 : ks.length ≠ 1) (h5 : ks.length ≠ 5) : ∃ b, v = .ref b ∧ H b = some (.tup (ks.map kV)) := by
  obtain ⟨b, xs, e, t, r⟩ := Rep.tup_iff.mp h
  rw [kDs_rep r] at t
  rcases t with t | ⟨n, _⟩
  · exact ⟨b, e, t⟩
  · rw [List.length_map] at n
    omega
theorem get_go {r : Option D} (rm : RM K H m) (e : rdM m a = some o) (g : getO o y r) (hy : Rep K H y v) : ∃ r', DGet H a v r' ∧ (∀ d, r = some d → ∃ w, r' = some w ∧ Rep K H d w) ∧ (r = none → r' = none) := by
  obtain ⟨u, h1, h2⟩ := rd_go rm e
  unfold getO at g
  split at g
  · obtain ⟨k, rfl, rfl⟩ := g
    obtain ⟨xs, rfl, kv⟩ := h2
    exact ⟨valV xs k, .inl ⟨xs, k, h1, kD_rep hy, rfl⟩, kv.val.1, kv.val.2⟩
  · obtain ⟨ks, rfl, n1, n5, rfl⟩ := g
    obtain ⟨xs, rfl, kv⟩ := h2
    obtain ⟨b, e1, e2⟩ := tup_at hy n1 n5
    exact ⟨valV xs ks, .inr ⟨xs, ks, b, h1, e1, e2, rfl⟩, kv.val.1, kv.val.2⟩
  · exact g.elim
theorem put_go (rm : RM K H m) (e : m a = some o) (g : putO o y d o') (hy : Rep K H y v) (hd : Rep K H d z) : ∃ u, DPut H a v z (upd H a u) ∧ RM K (upd H a u) (mput m a o') ∧ Step m H (mput m a o') (upd H a u) := by
  obtain ⟨u, h1, h2⟩ := rm a o e
  unfold putO at g
  split at g
  · obtain ⟨k, rfl, n, rfl⟩ := g
    obtain ⟨xs, rfl, kv⟩ := h2
    exact ⟨.dK (putK xs k z), .inl ⟨xs, k, h1, kD_rep hy, by rw [← kv.length]; exact n, rfl⟩, rm.put e trivial ⟨_, rfl, kv.put hd⟩, Step.put rm e trivial⟩
  · obtain ⟨ks, rfl, n1, n5, n, rfl⟩ := g
    obtain ⟨xs, rfl, kv⟩ := h2
    obtain ⟨b, e1, e2⟩ := tup_at hy n1 n5
    exact ⟨.dT (putK xs ks z), .inr ⟨xs, ks, b, h1, e1, e2, by rw [← kv.length]; exact n, rfl⟩, rm.put e trivial ⟨_, rfl, kv.put hd⟩, Step.put rm e trivial⟩
  · exact g.elim
end
section
variable {X : Cx} {B : Bs} {o i e f value : Expr} {st : Stmt} {pos pos' apos cpos : Pos} {pa pb pc : TEm}
/-- d[y] -/
def wGet : R2m := fun x y m Q => match x with
  | .ref a => ∃ o d, rdM m a = some o ∧ getO o y (some d) ∧ Q d m
  | _ => False
theorem mx_dget (hu : X.A.units + 1 < cLine) (ho : MX X B o pa) (hi : MX X B i pb) (hs : NoSl i := by exact fun _ _ => rfl) : MX X B (.Subscript o i pos) (wBin wGet pa pb) := peImp (pe_dget hu ho hi hs) fun σ H Q ⟨ρ, m, Qm, A, q, k⟩ => by
  refine ⟨ρ, m, _, A, q, fun x m1 v H1 q1 r1 t1 x1 => ?_⟩
  refine ⟨ρ, m1, _, A.step r1 t1, q1, fun y m2 w H2 q2 r2 t2 x2 => ?_⟩
  unfold wGet at q2
  split at q2
  · obtain ⟨ob, d, e1, g, q2⟩ := q2
    obtain ⟨r', g', h1, _⟩ := get_go r2 e1 g x2
    obtain ⟨w', e2, x3⟩ := h1 d rfl
    subst e2
    exact ⟨_, w', Rep.ref_iff.mp x1, g', k _ _ _ _ q2 r2 (t1.trans t2) x3⟩
  · exact q2.elim
def wDIn (neg : Bool) : R2m := fun y x m Q => match x with
  | .ref a => ∃ o r, rdM m a = some o ∧ getO o y r ∧ Q (.bl (if neg then !r.isSome else r.isSome)) m
  | _ => False
theorem din_go {neg : Bool} {y x : D} {m : Mem} {H : Hp} {v w : V} {Qm : KM} {Q : VK} {m0 : Mem} {H0 : Hp} (hy : Rep X.K H y v) (hx : Rep X.K H x w) (r : RM X.K H m) (q : wDIn neg y x m Qm) (t : Step m0 H0 m H) (k : ∀ d m' v H', Qm d m' → RM X.K H' m' → Step m0 H0 m' H' → Rep X.K H' d v → Q v H') :
    ∃ a o, w = .ref a ∧ DGet H a v o ∧ Q (.bl (if neg then !o.isSome else o.isSome)) H := by
  unfold wDIn at q
  split at q
  · obtain ⟨ob, ro, e1, g, q⟩ := q
    obtain ⟨r', g', h1, h2⟩ := get_go r e1 g hy
    have e : r'.isSome = ro.isSome := by
      cases ro with
      | none => rw [h2 rfl]; rfl
      | some d => obtain ⟨w', e2, _⟩ := h1 d rfl; rw [e2]; rfl
    exact ⟨_, r', Rep.ref_iff.mp hx, g', by rw [e]; exact k _ _ _ _ q r t Rep.bl⟩
  · exact q.elim
theorem pcDin {t : TE} {op : CmpOp} {a b : Expr} (h : PC X op a b t) {t' : TE} (i : ∀ σ H Q, t' σ H Q → t σ H Q) : PC X op a b t' := ⟨fun pins s σ H Q I q => h.run pins s σ H Q I (i _ _ _ q)⟩
theorem pc_in (hu : X.A.units + 1 < cLine) (hi : MX X B i pa) (ho : MX X B o pb) : PC X .In i o (uE X.K B (wBin (wDIn false) pa pb)) := pcDin (pc_din hu hi ho) fun σ H Q ⟨ρ, m, Qm, A, q, k⟩ => by
  refine ⟨ρ, m, _, A, q, fun y m1 v H1 q1 r1 t1 x1 => ⟨ρ, m1, _, A.step r1 t1, q1, fun x m2 w H2 q2 r2 t2 x2 => ?_⟩⟩
  exact din_go (x1.stay (t2.tups r1)) x2 r2 q2 (t1.trans t2) k
theorem pc_notin (hu : X.A.units + 1 < cLine) (hi : MX X B i pa) (ho : MX X B o pb) : PC X .NotIn i o (uE X.K B (wBin (wDIn true) pa pb)) := pcDin (pc_dnotin hu hi ho) fun σ H Q ⟨ρ, m, Qm, A, q, k⟩ => by
  refine ⟨ρ, m, _, A, q, fun y m1 v H1 q1 r1 t1 x1 => ⟨ρ, m1, _, A.step r1 t1, q1, fun x m2 w H2 q2 r2 t2 x2 => ?_⟩⟩
  exact din_go (neg := true) (x1.stay (t2.tups r1)) x2 r2 q2 (t1.trans t2) k
theorem mx_din (hu : X.A.units + 1 < cLine) (hi : MX X B i pa) (ho : MX X B o pb) (h1 : behindInMarks .In o = false := by rfl) : MX X B (.Compare i [.In] [o] pos) (wBin (wDIn false) pa pb) := pe_cmp (pc_in hu hi ho) h1
theorem mx_dnotin (hu : X.A.units + 1 < cLine) (hi : MX X B i pa) (ho : MX X B o pb) (h1 : behindInMarks .NotIn o = false := by rfl) : MX X B (.Compare i [.NotIn] [o] pos) (wBin (wDIn true) pa pb) := pe_cmp (pc_notin hu hi ho) h1
theorem tB_go {p : TEm} {σ : St} {H : Hp} {Q : Bool → Hp → Prop} (h : uT X.K B (wTest p) σ H Q) : tB (uE X.K B p) σ H Q := test_go (fun _ _ _ q => q) h
theorem mt_din (hu : X.A.units + 1 < cLine) (hi : MX X B i pa) (ho : MX X B o pb) (h1 : behindInMarks .In o = false := by rfl) : MT X B (.Compare i [.In] [o] pos) (wTest (wBin (wDIn false) pa pb)) := ptImp (pt_cmp (pc_in hu hi ho) h1) fun σ H Q h => tB_go h
theorem mt_dnotin (hu : X.A.units + 1 < cLine) (hi : MX X B i pa) (ho : MX X B o pb) (h1 : behindInMarks .NotIn o = false := by rfl) : MT X B (.Compare i [.NotIn] [o] pos) (wTest (wBin (wDIn true) pa pb)) := ptImp (pt_cmp (pc_notin hu hi ho) h1) fun σ H Q h => tB_go h
/-- d.get(y, z) -/
def isDO : O → Prop
  | .dK _ => True
  | .dT _ => True
  | _ => False
def wGet2 (pa pb pc : TEm) : TEm := fun ρ m Q => pa ρ m fun x m1 => refAt x fun a => (∃ o, rdM m1 a = some o ∧ isDO o) ∧ pb ρ m1 fun y m2 => pc ρ m2 fun z m3 => ∃ o r, rdM m3 a = some o ∧ getO o y r ∧ Q (r.getD z) m3
theorem mx_get2 (hu : X.A.units + 1 < cLine) (ho : MX X B o pa) (he : MX X B e pb) (hf : MX X B f pc) (M : M2 X o "get" apos e f cpos := by exact ⟨rfl, rfl, rfl, rfl⟩) : MX X B (.Call (.Attribute o "get" apos) [e, f] [] cpos) (wGet2 pa pb pc) := peImp (pe_dget2 hu ho he hf M) fun σ H Q ⟨ρ, m, Qm, A, q, k⟩ => by
  refine ⟨ρ, m, _, A, q, fun x m1 v H1 q1 r1 t1 x1 => ?_⟩
  unfold refAt at q1
  split at q1
  · rename_i a0
    obtain ⟨⟨ob, e0, hd⟩, q1⟩ := q1
    have isd : IsD H1 a0 := by
      obtain ⟨u, h1, h2⟩ := rd_go r1 e0
      unfold isDO at hd
      split at hd
      · obtain ⟨xs, rfl, _⟩ := h2; exact .inl ⟨xs, h1⟩
      · obtain ⟨xs, rfl, _⟩ := h2; exact .inr ⟨xs, h1⟩
      · exact hd.elim
    refine ⟨_, Rep.ref_iff.mp x1, isd, ρ, m1, _, A.step r1 t1, q1, fun y m2 w H2 q2 r2 t2 x2 => ?_⟩
    refine ⟨ρ, m2, _, (A.step r1 t1).step r2 t2, q2, fun z m3 u H3 q3 r3 t3 x3 => ?_⟩
    obtain ⟨ob, ro, e1, g, q3⟩ := q3
    obtain ⟨r', g', h1, h2⟩ := get_go r3 e1 g (x2.stay (t3.tups r2))
    refine ⟨r', g', ?_⟩
    have tt := t1.trans (t2.trans t3)
    cases ro with
    | none => rw [h2 rfl]; exact k _ _ _ _ q3 r3 tt x3
    | some d => obtain ⟨w', e2, x4⟩ := h1 d rfl; rw [e2]; exact k _ _ _ _ q3 r3 tt x4
  · exact q1.elim
/-- d[y] = v -/
def wPut (pa pb pc : TEm) : TSm := fun E ρ m => pc ρ m fun z m1 => pa ρ m1 fun x m2 => pb ρ m2 fun y m3 => refAt x fun a => ∃ o o', m3 a = some o ∧ putO o y z o' ∧ E.nx ρ (mput m3 a o')
theorem ms_dput (hu : X.A.units + 1 < cLine) (ho : MX X B o pa) (hi : MX X B i pb) (hv : MX X B value pc) (hs : swapsWith value (some (.Subscript o i pos')) pos.line X.env = pure false := by rfl) : MS X B (.Assign [.Subscript o i pos'] value pos) (wPut pa pb pc) :=
  psImp (ps_dput hu ho hi hv hs) fun D σ H ⟨ρ, m, E, A, q, n, _⟩ => by
  refine ⟨ρ, m, _, A, q, fun z m1 u H1 q1 r1 t1 x1 => ?_⟩
  refine ⟨ρ, m1, _, A.step r1 t1, q1, fun x m2 v H2 q2 r2 t2 x2 => ?_⟩
  refine ⟨ρ, m2, _, (A.step r1 t1).step r2 t2, q2, fun y m3 w H3 q3 r3 t3 x3 => ?_⟩
  have t23 := t2.trans t3
  unfold refAt at q3
  split at q3
  · obtain ⟨ob, ob', e1, g, q3⟩ := q3
    obtain ⟨uo, dp, rm, st⟩ := put_go r3 e1 g x3 (x1.stay (t23.tups r1))
    have t4 := t1.trans (t23.trans st)
    exact ⟨_, _, Rep.ref_iff.mp x2, dp, n _ _ _ _ q3 rm t4 (A.step rm t4).s⟩
  · exact q3.elim
theorem mx_dnewK : MX X B (.Dict [] [] pos) (fun _ m Q => newO (.dK []) m Q) := peImp pe_dnewK fun σ H Q ⟨ρ, m, Qm, A, q, k⟩ => new_go q A.r Step.refl ⟨[], rfl, .nil⟩ k
theorem mx_dnewT : MX X B (.Dict [] [] pos) (fun _ m Q => newO (.dT []) m Q) := peImp pe_dnewT fun σ H Q ⟨ρ, m, Qm, A, q, k⟩ => new_go q A.r Step.refl ⟨[], rfl, .nil⟩ k
end
end Mm
namespace Mm
open PySem L2
open PyProof.Rows (envOfC)

theorem hu1 {A : Around} {k : Nat} (hr : Room k A) : A.units + 1 < cLine := hu_of hr
theorem hu64 {A : Around} {k : Nat} (hr : Room k A) : A.units + 64 < cLine := hr.units
theorem hu65 {A : Around} {k : Nat} (hr : Room k A) : A.units + 65 < cLine := by have := hr.un; omega
section
variable {X : Cx} {B : Bs} {e a b c o i value : Expr} {es : List Expr} {pos pos' apos cpos : Pos} {pa pb pc : TEm} {la : TAm}

/-! ### a[b]: tuple, list, text, dict -/
def wSub : R2m := fun x y m Q => match x with
  | .tup ds => match y with
    | .int i => ∃ d, atI ds i = some d ∧ Q d m
    | _ => False
  | .str z => match y with
    | .int i => z.length ≤ sizeLine ∧ ∃ c, atI z.cps.toList i = some c ∧ Q (.str ⟨#[c]⟩) m
    | _ => False
  | .ref a => ∃ o, rdM m a = some o ∧ match o with
    | .lst ds => ∃ i d, y = .int i ∧ atI ds i = some d ∧ Q d m
    | o => ∃ d, getO o y (some d) ∧ Q d m
  | _ => False
def rDG : R2 := fun x y H Q => ∃ a v, x = .ref a ∧ DGet H a y (some v) ∧ Q v H
theorem ix_dict (hu : X.A.units + 1 < cLine) : IxR X rDG := by
  intro value slice pins s σ H x y v u Q I rx ry h hs
  obtain ⟨a, w, rfl, g, q⟩ := h
  obtain rfl : v = Value.ref a := rx
  exact PyProof.Rows.tail_any (dict_typeIs I g) PySem.F.slot_dict_getitem.lookup (d_getItem hu I g ry fun w' s3 I3 rw' => ⟨w, H, I3, rw', q⟩) hs
theorem mi_sub {k : Nat} (hr : Room k X.A) : MIx X wSub := mix_of (ix_seq.or (ix_dict (hu1 hr))) fun x y v w H m Q Qm hx hy r q k => by
  unfold wSub at q
  split at q
  · split at q
    · obtain ⟨d, e, q⟩ := q
      obtain ⟨a, xs, e1, s, rr⟩ := Rep.tup_iff.mp hx
      obtain ⟨v', e2, x2⟩ := atI_rep rr e
      exact .inl (.inr (.inl ⟨a, xs, _, v', e1, Rep.int_iff.mp hy, s.sq, e2, k _ _ _ _ q r Step.refl x2⟩))
    · exact q.elim
  · split at q
    · obtain ⟨z, c, e, q⟩ := q
      exact .inl (.inr (.inr ⟨_, _, c, Rep.str_iff.mp hx, Rep.int_iff.mp hy, z, e, k _ _ _ _ q r Step.refl Rep.str⟩))
    · exact q.elim
  · obtain ⟨o, e0, q⟩ := q
    split at q
    · obtain ⟨i, d, e3, e, q⟩ := q
      subst e3
      obtain ⟨xs, s, rr⟩ := rd_lst r e0
      obtain ⟨v', e2, x2⟩ := atI_rep rr e
      exact .inl (.inl ⟨_, xs, _, v', Rep.ref_iff.mp hx, Rep.int_iff.mp hy, s, e2, k _ _ _ _ q r Step.refl x2⟩)
    · obtain ⟨d, g, q⟩ := q
      obtain ⟨r', g', h1, _⟩ := get_go r e0 g hy
      obtain ⟨w', e2, x3⟩ := h1 d rfl
      subst e2
      exact .inr ⟨_, w', Rep.ref_iff.mp hx, g', k _ _ _ _ q r Step.refl x3⟩
  · exact q.elim

/-! ### a + b: ints, texts, tuples, lists -/
def wPlus : R2m := fun x y m Q => match x, y with
  | .int i, .int j => Q (.int (i + j)) m
  | .str i, .str j => i.length + j.length ≤ sizeLine ∧ Q (.str (i ++ j)) m
  | .tup ds, .tup es => ds.length + es.length ≤ sizeLine ∧ Q (.tup (ds ++ es)) m
  | .ref a, .ref b => ∃ ds es, m a = some (.lst ds) ∧ m b = some (.lst es) ∧ ds.length + es.length ≤ sizeLine ∧ newO (.lst (ds ++ es)) m Q
  | _, _ => False
theorem mo_plus : MOp X (binaryOp .Add) wPlus := mop_of (OpR.or op_add (OpR.or op_add_str (OpR.or op_catA op_cat))) fun x y v w H m Q Qm hx hy r q k => by
  unfold wPlus at q
  split at q
  · exact .inl ⟨_, _, Rep.int_iff.mp hx, Rep.int_iff.mp hy, k _ _ _ _ q r Step.refl Rep.int⟩
  · exact .inr (.inl ⟨_, _, Rep.str_iff.mp hx, Rep.str_iff.mp hy, q.1, k _ _ _ _ q.2 r Step.refl Rep.str⟩)
  · rename_i ds es
    obtain ⟨a, xs, e1, s1, r1⟩ := Rep.tup_iff.mp hx
    obtain ⟨b, ys, e2, s2, r2⟩ := Rep.tup_iff.mp hy
    have h1 := r1.length
    have h2 := r2.length
    refine .inr (.inr (.inl ⟨a, b, xs, ys, e1, e2, s1.sq, s2.sq, by rw [← h1, ← h2]; exact q.1, fun z => ?_, fun z1 z2 => ?_, fun z1 z2 p hp => ?_⟩))
    · subst z
      have : ds = [] := by cases ds with | nil => rfl | cons _ _ => simp at h1
      subst this
      exact k _ _ _ _ q.2 r Step.refl (by rw [← e2]; exact hy)
    · subst z2
      have : es = [] := by cases es with | nil => rfl | cons _ _ => simp at h2
      subst this
      exact k _ _ _ _ q.2 r Step.refl (by rw [List.append_nil, ← e1]; exact hx)
    · exact k _ _ _ _ q.2 (r.hid hp) (Step.hid r hp) (Rep.tup_iff.mpr ⟨p, _, rfl, TupAt.of upd_same, (r1.append r2).stay ((Step.hid (u := .tup (xs ++ ys)) r hp).tups r)⟩)
  · obtain ⟨ds, es, e1, e2, z, q⟩ := q
    obtain ⟨u1, h1, xs, rfl, r1⟩ := r _ _ e1
    obtain ⟨u2, h2, ys, rfl, r2⟩ := r _ _ e2
    exact .inr (.inr (.inr ⟨_, _, xs, ys, Rep.ref_iff.mp hx, Rep.ref_iff.mp hy, h1, h2, by rw [← r1.length, ← r2.length]; exact z, new_go q r Step.refl ⟨_, rfl, r1.append r2⟩ k⟩))
  · exact q.elim

/-! ### a * b: ints (below a million bits), a text and an int -/
def wTimes : R2m := fun x y m Q => match x, y with
  | .int i, .int j => (CMul i j ∨ CMulW i j) ∧ Q (.int (i * j)) m
  | .str s, .int n => MulOk s n ∧ Q (.str (Txt.mul s n)) m
  | _, _ => False
theorem op_mulS : OpR X (binaryOp .Mult) (fun x y H Q => ∃ s n, x = .str s ∧ y = .int n ∧ MulOk s n ∧ Q (.str (Txt.mul s n)) H) := by
  intro pins s σ H x y v u Q I rx ry h
  obtain ⟨z, n, rfl, rfl, ok, q⟩ := h
  obtain ⟨t, rfl⟩ := rx
  obtain ⟨t', rfl⟩ := ry
  exact PySem.SB.mul ok fun t'' k => ⟨.str _, H, I.tok _, ⟨_, rfl⟩, q⟩
theorem mo_times : MOp X (binaryOp .Mult) wTimes := mop_of (OpR.or op_mul (OpR.or op_mulW op_mulS)) fun x y v w H m Q Qm hx hy r q k => by
  unfold wTimes at q
  split at q
  · rcases q.1 with z | z
    · exact .inl ⟨_, _, Rep.int_iff.mp hx, Rep.int_iff.mp hy, z, k _ _ _ _ q.2 r Step.refl Rep.int⟩
    · exact .inr (.inl ⟨_, _, Rep.int_iff.mp hx, Rep.int_iff.mp hy, z, k _ _ _ _ q.2 r Step.refl Rep.int⟩)
  · exact .inr (.inr ⟨_, _, Rep.str_iff.mp hx, Rep.int_iff.mp hy, q.1, k _ _ _ _ q.2 r Step.refl Rep.str⟩)
  · exact q.elim

/-! ### deep equality: a datum as it is read in a memory -/
mutual
inductive Vw (m : Mem) : D → PyData → Prop
  | non : Vw m .non .none
  | bl (b : Bool) : Vw m (.bl b) (.bool b)
  | int (i : Int) : Vw m (.int i) (.int i)
  | str (x : Str) : Vw m (.str x) (.str x)
  | tup {ds : List D} {ts : List PyData} : VwA m ds ts → Vw m (.tup ds) (.tuple ts)
  | lst {a : Addr} {ds : List D} {ts : List PyData} : rdM m a = some (.lst ds) → VwA m ds ts → Vw m (.ref a) (.list ts)
inductive VwA (m : Mem) : List D → List PyData → Prop
  | nil : VwA m [] []
  | cons {d : D} {ds : List D} {t : PyData} {ts : List PyData} : Vw m d t → VwA m ds ts → VwA m (d :: ds) (t :: ts)
end
mutual
theorem Vw.dp {K : PySem.W.Frag} {H : Hp} {m : Mem} (r : RM K H m) : ∀ (t : PyData) (d : D) (v : V), Vw m d t → Rep K H d v → Dp K H v t
  | .none, _, _, h, x => by cases h; rw [Rep.non_iff.mp x]; exact .non
  | .bool b, _, _, h, x => by cases h; rw [Rep.bl_iff.mp x]; exact .bl b
  | .int i, _, _, h, x => by cases h; rw [Rep.int_iff.mp x]; exact .int i
  | .str z, _, _, h, x => by cases h; rw [Rep.str_iff.mp x]; exact .str z
  | .tuple ts, _, _, h, x => by
    cases h with
    | tup h =>
      obtain ⟨a, xs, rfl, s, rr⟩ := Rep.tup_iff.mp x
      exact .tup s.sq (VwA.dp r ts _ _ h rr)
  | .list ts, _, _, h, x => by
    cases h with
    | lst e h =>
      obtain ⟨xs, s, rr⟩ := rd_lst r e
      rw [Rep.ref_iff.mp x]
      exact .lst s (VwA.dp r ts _ _ h rr)
  | .dict _, _, _, h, _ => by cases h
theorem VwA.dp {K : PySem.W.Frag} {H : Hp} {m : Mem} (r : RM K H m) : ∀ (ts : List PyData) (ds : List D) (vs : List V), VwA m ds ts → Reps K H ds vs → DpAll K H vs ts
  | [], _, _, h, x => by cases h; rw [Reps.nil_iff.mp x]; exact .nil
  | t :: ts, _, _, h, x => by
    cases h with
    | cons h1 h2 =>
      obtain ⟨v, w, rfl, y, z⟩ := Reps.cons_iff.mp x
      exact .cons (Vw.dp r t _ _ h1 y) (VwA.dp r ts _ _ h2 z)
end
/-- two dicts of the same flat things under the same keys -/
def SameD (m : Mem) (a b : Addr) : Prop := ∃ ks ls : List (Key × D), m a = some (.dK ks) ∧ m b = some (.dK ls) ∧ ks.length = ls.length ∧ ∀ p ∈ ks, valD ls p.1 = some p.2 ∧ ((∃ i, p.2 = .int i) ∨ ∃ x, p.2 = .str x)
/-- x == y gives k -/
def EqB (m : Mem) (x y : D) (k : Bool) : Prop :=
  scD x y = some k ∨ (∃ t u, Vw m x t ∧ Vw m y u ∧ SeqAt.shaped t = true ∧ SeqAt.shaped u = true ∧ k = PyData.eqv t u) ∨ (k = true ∧ ∃ a b, x = .ref a ∧ y = .ref b ∧ SameD m a b)
theorem kvs_same {K : PySem.W.Frag} {H : Hp} {m : Mem} {a b : Addr} (r : RM K H m) (h : SameD m a b) : ∃ ks ls, H a = some (.dK ks) ∧ H b = some (.dK ls) ∧ ks.length = ls.length ∧ ∀ p ∈ ks, valV ls p.1 = some p.2 ∧ flatB p.2 = true := by
  obtain ⟨ks, ls, e1, e2, hl, h⟩ := h
  obtain ⟨u1, h1, xs, rfl, r1⟩ := r _ _ e1
  obtain ⟨u2, h2, ys, rfl, r2⟩ := r _ _ e2
  refine ⟨xs, ys, h1, h2, by rw [← r1.length, ← r2.length]; exact hl, ?_⟩
  clear e1 hl h1
  induction r1 with
  | nil => intro p hp; simp at hp
  | @cons p q ps qs z zs ih =>
    intro p' hp'
    rcases List.mem_cons.mp hp' with e | hm
    · subst e
      obtain ⟨v1, v2⟩ := h p List.mem_cons_self
      obtain ⟨w, hw, rw'⟩ := r2.val.1 _ v1
      have e3 : w = p'.2 := by
        have z2 := z.2
        rcases v2 with ⟨i, e⟩ | ⟨x, e⟩
        · rw [e] at z2 rw'; rw [Rep.int_iff.mp z2, Rep.int_iff.mp rw']
        · rw [e] at z2 rw'; rw [Rep.str_iff.mp z2, Rep.str_iff.mp rw']
      refine ⟨by rw [← z.1, hw, e3], ?_⟩
      have z2 := z.2
      rcases v2 with ⟨i, e⟩ | ⟨x, e⟩
      · rw [e] at z2; rw [Rep.int_iff.mp z2]; rfl
      · rw [e] at z2; rw [Rep.str_iff.mp z2]; rfl
    · exact ih (fun p hp => h p (List.mem_cons_of_mem _ hp)) p' hm
def wEqq : R2m := fun x y m Q => ∃ k, EqB m x y k ∧ Q (.bl k) m
def wNeq : R2m := fun x y m Q => ∃ k, EqB m x y k ∧ Q (.bl (!k)) m
theorem mo_eqq {k : Nat} (hr : Room k X.A) : MOp X (compareOp .Eq) wEqq := mop_of (OpR.or op_eq (OpR.or (op_eqD (hu64 hr)) (op_eq_dictA (hr.units0)))) fun x y v w H m Q Qm hx hy r q k => by
  obtain ⟨b, h, q⟩ := q
  have fin := k _ _ _ _ q r Step.refl Rep.bl
  rcases h with h | ⟨t, u, h1, h2, s1, s2, e⟩ | ⟨e, a, c, rfl, rfl, h⟩
  · obtain ⟨z1, z2⟩ := scD_of hx hy h
    exact .inl ⟨z1, by rw [z2]; exact fin⟩
  · exact .inr (.inl ⟨t, u, h1.dp r _ _ _ hx, h2.dp r _ _ _ hy, s1, s2, by rw [← e]; exact fin⟩)
  · subst e
    obtain ⟨ks, ls, z1, z2, z3, z4⟩ := kvs_same r h
    exact .inr (.inr ⟨_, _, ks, ls, Rep.ref_iff.mp hx, Rep.ref_iff.mp hy, z1, z2, z3, z4, fin⟩)
theorem mo_neq {k : Nat} (hr : Room k X.A) : MOp X (compareOp .NotEq) wNeq := mop_of (OpR.or op_ne (OpR.or (op_neD (hu64 hr)) (op_ne_dictA (hr.units0)))) fun x y v w H m Q Qm hx hy r q k => by
  obtain ⟨b, h, q⟩ := q
  have fin := k _ _ _ _ q r Step.refl Rep.bl
  rcases h with h | ⟨t, u, h1, h2, s1, s2, e⟩ | ⟨e, a, c, rfl, rfl, h⟩
  · obtain ⟨z1, z2⟩ := scD_of hx hy h
    exact .inl ⟨z1, by rw [z2]; exact fin⟩
  · exact .inr (.inl ⟨t, u, h1.dp r _ _ _ hx, h2.dp r _ _ _ hy, s1, s2, by rw [← e]; exact fin⟩)
  · subst e
    obtain ⟨ks, ls, z1, z2, z3, z4⟩ := kvs_same r h
    exact .inr (.inr ⟨_, _, ks, ls, Rep.ref_iff.mp hx, Rep.ref_iff.mp hy, z1, z2, z3, z4, fin⟩)

/-! ### built-ins -/
def wMax2 : RLm := fun ds m Q => match ds with
  | [.int i, .int j] => Q (.int (if j > i then j else i)) m
  | _ => False
def wMin2 : RLm := fun ds m Q => match ds with
  | [.int i, .int j] => Q (.int (if j < i then j else i)) m
  | _ => False
theorem mc_max2 (hc : X.calm = true := by rfl) : MCall X (.builtin "max") wMax2 := mcall_of (call_max2 hc) fun ds vs H m Q Qm hx r q k => by
  unfold wMax2 at q; split at q
  · obtain ⟨v, w, e, x, y⟩ := reps2 hx
    rw [Rep.int_iff.mp x, Rep.int_iff.mp y] at e
    exact ⟨_, _, e, k _ _ _ _ q r Step.refl Rep.int⟩
  · exact q.elim
theorem mc_min2 (hc : X.calm = true := by rfl) : MCall X (.builtin "min") wMin2 := mcall_of (call_min2 hc) fun ds vs H m Q Qm hx r q k => by
  unfold wMin2 at q; split at q
  · obtain ⟨v, w, e, x, y⟩ := reps2 hx
    rw [Rep.int_iff.mp x, Rep.int_iff.mp y] at e
    exact ⟨_, _, e, k _ _ _ _ q r Step.refl Rep.int⟩
  · exact q.elim
def wAbs : RLm := fun ds m Q => match ds with
  | [.int i] => Q (.int (if i < 0 then -i else i)) m
  | _ => False
theorem mc_abs1 : MCall X (.builtin "abs") wAbs := mcall_of call_abs fun ds vs H m Q Qm hx r q k => by
  unfold wAbs at q; split at q
  · obtain ⟨v, e, x⟩ := reps1 hx
    rw [Rep.int_iff.mp x] at e
    exact ⟨_, e, k _ _ _ _ q r Step.refl Rep.int⟩
  · exact q.elim
def wInt1 : RLm := fun ds m Q => match ds with
  | [.int i] => Q (.int i) m
  | [.bl b] => Q (.int (if b then 1 else 0)) m
  | _ => False
theorem mc_int1 : MCall X (.type "int") wInt1 := mcall_of call_int1 fun ds vs H m Q Qm hx r q k => by
  unfold wInt1 at q; split at q
  · obtain ⟨v, e, x⟩ := reps1 hx
    rw [Rep.int_iff.mp x] at e
    exact .inl ⟨_, e, k _ _ _ _ q r Step.refl Rep.int⟩
  · obtain ⟨v, e, x⟩ := reps1 hx
    rw [Rep.bl_iff.mp x] at e
    exact .inr ⟨_, e, k _ _ _ _ q r Step.refl Rep.int⟩
  · exact q.elim
def wLen1 : RLm := fun ds m Q => match ds with
  | [.str z] => z.length ≤ sizeLine ∧ Q (.int z.length) m
  | [.tup ds] => Q (.int ds.length) m
  | [.ref a] => (∃ ds, rdM m a = some (.lst ds) ∧ Q (.int ds.length) m) ∨ ∃ kvs, m a = some (.dK kvs) ∧ Q (.int kvs.length) m
  | _ => False
theorem mc_len1 : MCall X (.builtin "len") wLen1 := mcall_of (CallR.or call_len call_lenD) fun ds vs H m Q Qm hx r q k => by
  unfold wLen1 at q; split at q
  · obtain ⟨v, e, x⟩ := reps1 hx
    rw [Rep.str_iff.mp x] at e
    exact .inl ⟨_, _, e, ⟨q.1, rfl⟩, k _ _ _ _ q.2 r Step.refl Rep.int⟩
  · obtain ⟨v, e, x⟩ := reps1 hx
    obtain ⟨a, xs, e1, s, rr⟩ := Rep.tup_iff.mp x
    exact .inl ⟨.ref a, _, by rw [e, e1], Or.inr ⟨xs, s.sq, rr.length⟩, k _ _ _ _ q r Step.refl Rep.int⟩
  · obtain ⟨v, e, x⟩ := reps1 hx
    rw [Rep.ref_iff.mp x] at e
    rcases q with ⟨ds, e1, q⟩ | ⟨kvs, e1, q⟩
    · obtain ⟨xs, s, rr⟩ := rd_lst r e1
      exact .inl ⟨.ref _, _, e, Or.inl ⟨xs, s, rr.length⟩, k _ _ _ _ q r Step.refl Rep.int⟩
    · obtain ⟨u, h1, xs, rfl, rr⟩ := r _ _ e1
      exact .inr ⟨_, xs, e, h1, by rw [← rr.length]; exact k _ _ _ _ q r Step.refl Rep.int⟩
  · exact q.elim
/-- list(x): a list, a tuple, a dict's keys -/
def wList1 : RLm := fun ds m Q => match ds with
  | [.tup ds] => newO (.lst ds) m Q
  | [.ref a] => (∃ ds, rdM m a = some (.lst ds) ∧ newO (.lst ds) m Q) ∨ ∃ kvs, m a = some (.dK kvs) ∧ newO (.lst (kvs.map fun p => kD p.1)) m Q
  | _ => False
theorem mc_list1 (hc : X.calm = true := by rfl) : MCall X (.type "list") wList1 := mcall_of (CallR.or call_list_of (call_list_dK hc)) fun ds vs H m Q Qm hx r q k => by
  unfold wList1 at q; split at q
  · obtain ⟨v, e, x⟩ := reps1 hx
    obtain ⟨a, xs, e1, s, rr⟩ := Rep.tup_iff.mp x
    exact .inl ⟨_, _, by rw [e, e1], .inr s.sq, new_go q r Step.refl ⟨_, rfl, rr⟩ k⟩
  · obtain ⟨v, e, x⟩ := reps1 hx
    rw [Rep.ref_iff.mp x] at e
    rcases q with ⟨ds, e1, q⟩ | ⟨kvs, e1, q⟩
    · obtain ⟨xs, s, rr⟩ := rd_lst r e1
      exact .inl ⟨_, _, e, .inl s, new_go q r Step.refl ⟨_, rfl, rr⟩ k⟩
    · obtain ⟨u, h1, xs, rfl, rr⟩ := r _ _ e1
      refine .inr ⟨_, xs, e, h1, new_go q r Step.refl ⟨_, rfl, ?_⟩ k⟩
      clear e1 q h1
      induction rr with
      | nil => exact Reps.nil
      | cons h _ ih => exact Reps.cons (by show Rep X.K H (kD _) (kV _); rw [h.1]; exact rep_kD) ih
  · exact q.elim
/-- tuple(x): a list, a tuple -/
def wTuple1 : RLm := fun ds m Q => match ds with
  | [.tup ds] => Q (.tup ds) m
  | [.ref a] => ∃ ds, rdM m a = some (.lst ds) ∧ Q (.tup ds) m
  | _ => False
theorem mc_tuple1 : MCall X (.type "tuple") wTuple1 := mcall_of call_tuple_of fun ds vs H m Q Qm hx r q k => by
  unfold wTuple1 at q; split at q
  · obtain ⟨v, e, x⟩ := reps1 hx
    obtain ⟨a, xs, e1, s, rr⟩ := Rep.tup_iff.mp x
    exact ⟨_, _, by rw [e, e1], .inr ⟨s.sq, k _ _ _ _ q r Step.refl (by rw [← e1]; exact x)⟩⟩
  · obtain ⟨v, e, x⟩ := reps1 hx
    rw [Rep.ref_iff.mp x] at e
    obtain ⟨ds, e1, q⟩ := q
    obtain ⟨xs, s, rr⟩ := rd_lst r e1
    exact ⟨_, _, e, .inl ⟨s, fun l hl => k _ _ _ _ q (r.hid hl) (Step.hid r hl) (Rep.tup_iff.mpr ⟨l, _, rfl, TupAt.of upd_same, rr.stay ((Step.hid (u := .tup xs) r hl).tups r)⟩)⟩⟩
  · exact q.elim
theorem reps_bls {K : PySem.W.Frag} {H : Hp} : ∀ {bs : List Bool} {vs : List V}, Reps K H (bs.map .bl) vs → vs = bs.map .bl
  | [], _, h => by rw [Reps.nil_iff.mp h]; rfl
  | k :: ks, _, h => by
    obtain ⟨v, r, e, x, y⟩ := Reps.cons_iff.mp h
    rw [e, Rep.bl_iff.mp x, reps_bls y]; rfl
theorem reps_intsV {K : PySem.W.Frag} {H : Hp} : ∀ {bs : List Int} {vs : List V}, Reps K H (bs.map .int) vs → vs = bs.map .int
  | [], _, h => by rw [Reps.nil_iff.mp h]; rfl
  | k :: ks, _, h => by
    obtain ⟨v, r, e, x, y⟩ := Reps.cons_iff.mp h
    rw [e, Rep.int_iff.mp x, reps_intsV y]; rfl
def wAll1 : RLm := fun ds m Q => match ds with
  | [.ref a] => ∃ bs : List Bool, rdM m a = some (.lst (bs.map .bl)) ∧ Q (.bl (bs.all id)) m
  | _ => False
theorem mc_all1 (hc : X.calm = true := by rfl) : MCall X (.builtin "all") wAll1 := mcall_of (cr_all hc) fun ds vs H m Q Qm hx r q k => by
  unfold wAll1 at q; split at q
  · obtain ⟨v, e, x⟩ := reps1 hx
    rw [Rep.ref_iff.mp x] at e
    obtain ⟨bs, e1, q⟩ := q
    obtain ⟨xs, s, rr⟩ := rd_lst r e1
    rw [reps_bls rr] at s
    exact ⟨_, bs, e, s, k _ _ _ _ q r Step.refl Rep.bl⟩
  · exact q.elim
def wSum1 : RLm := fun ds m Q => match ds with
  | [.ref a] => ∃ ns : List Int, rdM m a = some (.lst (ns.map .int)) ∧ Q (.int ns.sum) m
  | _ => False
theorem mc_sum1 (hc : X.calm = true := by rfl) : MCall X (.builtin "sum") wSum1 := mcall_of (cr_sum hc) fun ds vs H m Q Qm hx r q k => by
  unfold wSum1 at q; split at q
  · obtain ⟨v, e, x⟩ := reps1 hx
    rw [Rep.ref_iff.mp x] at e
    obtain ⟨bs, e1, q⟩ := q
    obtain ⟨xs, s, rr⟩ := rd_lst r e1
    rw [reps_intsV rr] at s
    exact ⟨_, bs, e, s, k _ _ _ _ q r Step.refl Rep.int⟩
  · exact q.elim
def wMaxL : RLm := fun ds m Q => match ds with
  | [.ref a] => ∃ ns : List Int, rdM m a = some (.lst (ns.map .int)) ∧ 0 < ns.length ∧ ∀ n, n ∈ ns → (∀ y, y ∈ ns → y ≤ n) → Q (.int n) m
  | _ => False
theorem mc_max1 (hc : X.calm = true := by rfl) : MCall X (.builtin "max") wMaxL := mcall_of (cr_max hc) fun ds vs H m Q Qm hx r q k => by
  unfold wMaxL at q; split at q
  · obtain ⟨v, e, x⟩ := reps1 hx
    rw [Rep.ref_iff.mp x] at e
    obtain ⟨bs, e1, n, q⟩ := q
    obtain ⟨xs, s, rr⟩ := rd_lst r e1
    rw [reps_intsV rr] at s
    exact ⟨_, bs, e, s, n, fun z h1 h2 => k _ _ _ _ (q z h1 h2) r Step.refl Rep.int⟩
  · exact q.elim
def wMinL : RLm := fun ds m Q => match ds with
  | [.ref a] => ∃ ns : List Int, rdM m a = some (.lst (ns.map .int)) ∧ 0 < ns.length ∧ ∀ n, n ∈ ns → (∀ y, y ∈ ns → n ≤ y) → Q (.int n) m
  | _ => False
theorem mc_min1 (hc : X.calm = true := by rfl) : MCall X (.builtin "min") wMinL := mcall_of (cr_min hc) fun ds vs H m Q Qm hx r q k => by
  unfold wMinL at q; split at q
  · obtain ⟨v, e, x⟩ := reps1 hx
    rw [Rep.ref_iff.mp x] at e
    obtain ⟨bs, e1, n, q⟩ := q
    obtain ⟨xs, s, rr⟩ := rd_lst r e1
    rw [reps_intsV rr] at s
    exact ⟨_, bs, e, s, n, fun z h1 h2 => k _ _ _ _ (q z h1 h2) r Step.refl Rep.int⟩
  · exact q.elim

/-! ### isinstance of a built-in type -/
def tyD (m : Mem) : D → Option String
  | .non => some "NoneType"
  | .bl _ => some "bool"
  | .int _ => some "int"
  | .str _ => some "str"
  | .tup _ => some "tuple"
  | .ref a => match m a with
    | some (.lst _) => some "list"
    | some (.dK _) => some "dict"
    | some (.dT _) => some "dict"
    | some (.frz (.lst _)) => some "list"
    | _ => none
  | _ => none
/-- isinstance(x, T) -/
def isiB (t T : String) : Bool := t == T || (t == "bool" && T == "int")
def tys : List String := ["NoneType", "bool", "int", "str", "tuple", "list", "dict"]
theorem kit_tys : (tys.all fun t => tys.all fun T => kitB t T == some (isiB t T)) = true := by decide +kernel
theorem kit_of_tys {t T : String} (h : t ∈ tys) (h' : T ∈ tys) : kitB t T = some (isiB t T) := by
  have := List.all_eq_true.mp (List.all_eq_true.mp kit_tys t h) T h'
  exact eq_of_beq this
theorem tyX_of {K : PySem.W.Frag} {H : Hp} {m : Mem} {d : D} {v : V} {t : String} (r : RM K H m) (x : Rep K H d v) (h : tyD m d = some t) : TyX K H v (.type t) ∧ t ∈ tys := by
  unfold tyD at h
  split at h
  · cases h; rw [Rep.non_iff.mp x]; exact ⟨.base .non, by decide⟩
  · cases h; rw [Rep.bl_iff.mp x]; exact ⟨.base (.bl _), by decide⟩
  · cases h; rw [Rep.int_iff.mp x]; exact ⟨.base (.int _), by decide⟩
  · cases h; rw [Rep.str_iff.mp x]; exact ⟨.base (.str _), by decide⟩
  · cases h
    obtain ⟨a, xs, rfl, s, rr⟩ := Rep.tup_iff.mp x
    refine ⟨?_, by decide⟩
    rcases s.sq with (s | ⟨ob, s⟩) | ⟨o, its, n, s, hc, _⟩
    · exact .base (.tup s)
    · exact .fTuple s
    · exact .kTuple s hc
  · rw [Rep.ref_iff.mp x]
    split at h
    · rename_i e; cases h; obtain ⟨u, h1, xs, rfl, _⟩ := r _ _ e; exact ⟨.base (.lst h1), by decide⟩
    · rename_i e; cases h; obtain ⟨u, h1, xs, rfl, _⟩ := r _ _ e; exact ⟨.base (.dK h1), by decide⟩
    · rename_i e; cases h; obtain ⟨u, h1, xs, rfl, _⟩ := r _ _ e; exact ⟨.base (.dT h1), by decide⟩
    · rename_i e; cases h; obtain ⟨u, h1, ob, w, rfl, xs, rfl, _⟩ := r _ _ e; exact ⟨.base (.frz h1), by decide⟩
    · cases h
  · cases h
def wIsi : RLm := fun ds m Q => match ds with
  | [x, .ty T] => ∃ t, tyD m x = some t ∧ T ∈ tys ∧ Q (.bl (isiB t T)) m
  | _ => False
theorem mc_isinstance2 : MCall X (.builtin "isinstance") wIsi := mcall_of call_isi fun ds vs H m Q Qm hx r q k => by
  unfold wIsi at q; split at q
  · obtain ⟨v, w, e, x, y⟩ := reps2 hx
    rw [Rep.ty_iff.mp y] at e
    obtain ⟨t, h1, h2, q⟩ := q
    obtain ⟨z1, z2⟩ := tyX_of r x h1
    exact ⟨v, _, _, _, _, e, ClsV.ty _, z1, kit_ty (kit_of_tys z2 h2), k _ _ _ _ q r Step.refl Rep.bl⟩
  · exact q.elim
/-- a built-in type as a value -/
theorem mx_ty {x : Str} {T : String} (hm : X.mg x = none) (hg : Gl X x := by rfl) (hv : bootBuiltins x = some (.type T) := by decide +kernel) (hn : x ≠ "__name__" := by decide) (hd : (x == ("__debug__" : Str)) = false := by decide) : MX X B (.Name x pos) (wC (.ty T)) :=
  mxC (v := .ty T) (pe_bltn hg hm hv rfl hn hd) fun _ => Rep.ty

/-! ### methods of lists -/
def wApp (pa pb : TEm) : TEm := fun ρ m Q => pa ρ m fun x m1 => refAt x fun a => (∃ ds, rdM m1 a = some (.lst ds)) ∧ pb ρ m1 fun y m2 => ∃ ds, m2 a = some (.lst ds) ∧ ds.length < sizeLine ∧ Q .non (mput m2 a (.lst (ds ++ [y])))
theorem list_ty {K : PySem.W.Frag} {H : Hp} {a : Addr} {m : Mem} (r : RM K H m) (h : ∃ ds, rdM m a = some (.lst ds)) : tyV K "list" (.ref a) H := by
  obtain ⟨ds, e⟩ := h
  obtain ⟨xs, s, _⟩ := rd_lst r e
  exact .inl ⟨rfl, xs, s⟩
theorem mx_append (ho : MX X B o pa) (he : MX X B e pb) (hbase : attributeBase o "append" X.env (eval o X.env) = eval o X.env := by rfl)
    (hfew : ((backTo cpos (starEach (e :: []) X.env)).all (fun x => !x.1) && (backToKw cpos (keywordEach [] X.env)).all (fun x => x.1.isSome)
      && decide ((e :: ([] : List Expr)).length + ([] : List Keyword).length + (if ([] : List Keyword).isEmpty then 0 else 1) < 30)) = true := by rfl)
    (hline : (apos.endLine == cpos.line) = true := by rfl) (hs : starEach (e :: []) X.env = (false, eval e X.env) :: starEach [] X.env := by rfl) (hplain : (backTo cpos (starEach [] X.env)).any (·.1) = false := by rfl) :
    MX X B (.Call (.Attribute o "append" apos) [e] [] cpos) (wApp pa pb) :=
  peImp (pe_bm PySem.F.plainAttrs_list PySem.F.slot_list_append PySem.F.type_list_append mt_append ho (pa_cons he pa_nil hs) hbase hfew hline hs hplain) fun σ H Q ⟨ρ, m, Qm, A, q, k⟩ => by
    refine ⟨ρ, m, _, A, q, fun x m1 v H1 q1 r1 t1 x1 => ?_⟩
    unfold refAt at q1
    split at q1
    · obtain ⟨tl, q1⟩ := q1
      rw [Rep.ref_iff.mp x1]
      refine ⟨list_ty r1 tl, ρ, m1, _, A.step r1 t1, q1, fun y m2 w H2 q2 r2 t2 x2 => ?_⟩
      obtain ⟨ds, e1, z, q2⟩ := q2
      obtain ⟨u, h1, xs, rfl, rr⟩ := r2 _ _ e1
      refine ⟨_, xs, w, rfl, rfl, h1, by rw [← rr.length]; exact z, ?_⟩
      exact k _ _ _ _ q2 (r2.put e1 trivial ⟨_, rfl, rr.append (Reps.cons x2 Reps.nil)⟩) (t1.trans (t2.trans (Step.put r2 e1 trivial))) Rep.non
    · exact q1.elim
def wExt (pa pb : TEm) : TEm := fun ρ m Q => pa ρ m fun x m1 => refAt x fun a => (∃ ds, rdM m1 a = some (.lst ds)) ∧ pb ρ m1 fun y m2 => ∃ ds b es, y = .ref b ∧ m2 a = some (.lst ds) ∧ m2 b = some (.lst es) ∧ ds.length + es.length ≤ sizeLine ∧ Q .non (mput m2 a (.lst (ds ++ es)))
theorem mx_extend (ho : MX X B o pa) (he : MX X B e pb) (hbase : attributeBase o "extend" X.env (eval o X.env) = eval o X.env := by rfl)
    (hfew : ((backTo cpos (starEach (e :: []) X.env)).all (fun x => !x.1) && (backToKw cpos (keywordEach [] X.env)).all (fun x => x.1.isSome)
      && decide ((e :: ([] : List Expr)).length + ([] : List Keyword).length + (if ([] : List Keyword).isEmpty then 0 else 1) < 30)) = true := by rfl)
    (hline : (apos.endLine == cpos.line) = true := by rfl) (hs : starEach (e :: []) X.env = (false, eval e X.env) :: starEach [] X.env := by rfl) (hplain : (backTo cpos (starEach [] X.env)).any (·.1) = false := by rfl) :
    MX X B (.Call (.Attribute o "extend" apos) [e] [] cpos) (wExt pa pb) :=
  peImp (pe_bm PySem.F.plainAttrs_list PySem.F.slot_list_extend PySem.F.type_list_extend mt_extend ho (pa_cons he pa_nil hs) hbase hfew hline hs hplain) fun σ H Q ⟨ρ, m, Qm, A, q, k⟩ => by
    refine ⟨ρ, m, _, A, q, fun x m1 v H1 q1 r1 t1 x1 => ?_⟩
    unfold refAt at q1
    split at q1
    · obtain ⟨tl, q1⟩ := q1
      rw [Rep.ref_iff.mp x1]
      refine ⟨list_ty r1 tl, ρ, m1, _, A.step r1 t1, q1, fun y m2 w H2 q2 r2 t2 x2 => ?_⟩
      obtain ⟨ds, b, es, rfl, e1, e2, z, q2⟩ := q2
      obtain ⟨u, h1, xs, rfl, rr⟩ := r2 _ _ e1
      obtain ⟨u', h2, ys, rfl, rs⟩ := r2 _ _ e2
      refine ⟨_, b, xs, ys, rfl, by rw [Rep.ref_iff.mp x2], h1, h2, by rw [← rr.length, ← rs.length]; exact z, ?_⟩
      exact k _ _ _ _ q2 (r2.put e1 trivial ⟨_, rfl, rr.append rs⟩) (t1.trans (t2.trans (Step.put r2 e1 trivial))) Rep.non
    · exact q1.elim
end
end Mm
namespace Mm
open PySem L2
open PyProof.Rows (envOfC)

/-! ### texts that are written: when two are one -/
theorem ofString_inj {a b : String} : (Str.ofString a = Str.ofString b) = (a = b) := by
  apply propext
  refine ⟨fun h => ?_, fun h => by rw [h]⟩
  have h1 : (cpsOfBytes 0 0 a.toByteArray.data.toList).toArray = (cpsOfBytes 0 0 b.toByteArray.data.toList).toArray := Str.mk.inj h
  have h2 : a.toList.map Char.toNat = b.toList.map Char.toNat := by
    have := congrArg Array.toList h1
    simp only [cpsOfBytes_string] at this
    exact this
  have inj : ∀ c d : Char, c.toNat = d.toNat → c = d := fun c d e => Char.ext (UInt32.toNat_inj.mp e)
  have h3 : ∀ l k : List Char, l.map Char.toNat = k.map Char.toNat → l = k := by
    intro l
    induction l with
    | nil => intro k h; cases k with
      | nil => rfl
      | cons _ _ => simp at h
    | cons c l ih => intro k h; cases k with
      | nil => simp at h
      | cons d k =>
        simp only [List.map_cons, List.cons.injEq] at h
        rw [inj c d h.1, ih k h.2]
  exact String.toList_inj.mp (h3 _ _ h2)

section
variable {E : EndsM} {ρ : StM} {m : Mem} {Q : KM} {QB : Bool → Mem → Prop} {QL : List D → Mem → Prop} {d x y : D} {t u : TSm} {pa pb pc p q : TEm} {ta tb : TTm} {la : TAm} {r r' : R2m}
theorem i_seq (h : t { E with nx := u E } ρ m) : wSeq t u E ρ m := h
theorem i_next (h : E.nx ρ m) : wNext E ρ m := h
theorem i_if (h : ta ρ m fun b m1 => if b = true then t E ρ m1 else u E ρ m1) : wIfS ta t u E ρ m := h
theorem i_ret (h : p ρ m E.rt) : wRet p E ρ m := h
theorem i_retN (h : E.rt .non m) : wRetN E ρ m := h
theorem i_drop (h : p ρ m fun _ m1 => E.nx ρ m1) : wDrop p E ρ m := h
theorem i_set {i : Nat} (h : p ρ m fun d m1 => E.nx (ρ.set i (some d)) m1) : wSet i p E ρ m := h
theorem i_asg {g : TGm} (h : p ρ m fun d m1 => g d ρ m1 E.nx) : wAsg p g E ρ m := h
theorem i_par {i j : Nat} (h : la ρ m fun ds m1 => twoAt ds fun x y => E.nx ((ρ.set i (some x)).set j (some y)) m1) : wPar i j la E ρ m := h
theorem i_gN {i : Nat} {n : StM → Mem → Prop} (h : n (ρ.set i (some d)) m) : gN i d ρ m n := h
theorem i_gTup {k : Nat} {h : TGsm} {n : StM → Mem → Prop} {ds : List D} (e : ds.length = k) (q : h ds ρ m n) : gTupM k h (.tup ds) ρ m n := ⟨e, q⟩
theorem i_gC {g : TGm} {h : TGsm} {n : StM → Mem → Prop} {ds : List D} (q : g d ρ m fun ρ1 m1 => h ds ρ1 m1 n) : gConss g h (d :: ds) ρ m n := q
theorem i_gE {n : StM → Mem → Prop} (q : n ρ m) : gNils [] ρ m n := ⟨rfl, q⟩
theorem i_var {i : Nat} (e : ρ[i]? = some (some d)) (h : Q d m) : wVar i ρ m Q := ⟨d, e, h⟩
theorem i_C (h : Q d m) : wC d ρ m Q := h
theorem i_bin (h : pa ρ m fun x m1 => pb ρ m1 fun y m2 => r x y m2 Q) : wBin r pa pb ρ m Q := h
theorem i_un {r : R1m} (h : p ρ m fun d m1 => r d m1 Q) : wUn r p ρ m Q := h
theorem i_neg {i : Int} (h : Q (.int (-i)) m) : wNeg (.int i) m Q := h
theorem i_test (h : p ρ m fun d m' => ∃ k, d = .bl k ∧ QB k m') : wTest p ρ m QB := h
theorem i_bl {b : Bool} {R : Bool → Prop} (h : R b) : ∃ k, D.bl b = .bl k ∧ R k := ⟨b, rfl, h⟩
theorem i_chain (h : pa ρ m fun x m1 => pb ρ m1 fun y m2 => r x y m2 fun z m3 => ∃ k, z = .bl k ∧ if k = true then pc ρ m3 fun w m4 => r' y w m4 Q else Q (.bl false) m3) : wChain r r' pa pb pc ρ m Q := h
theorem i_and (h : ta ρ m fun c m1 => if c = true then tb ρ m1 QB else QB false m1) : wAnd ta tb ρ m QB := h
theorem i_or (h : ta ρ m fun c m1 => if c = true then QB true m1 else tb ρ m1 QB) : wOr ta tb ρ m QB := h
theorem i_not (h : ta ρ m fun c m1 => QB (!c) m1) : wNot ta ρ m QB := h
theorem i_andV (h : p ρ m fun d m1 => ∃ c, d = .bl c ∧ if c = true then q ρ m1 Q else Q (.bl false) m1) : wAndV p q ρ m Q := h
theorem i_orV (h : p ρ m fun d m1 => ∃ c, d = .bl c ∧ if c = true then Q (.bl true) m1 else q ρ m1 Q) : wOrV p q ρ m Q := h
theorem i_notV (h : p ρ m fun d m1 => ∃ c, d = .bl c ∧ Q (.bl (!c)) m1) : wNotV p ρ m Q := h
theorem i_ifE (h : ta ρ m fun c m1 => if c = true then p ρ m1 Q else q ρ m1 Q) : wIf ta p q ρ m Q := h
theorem i_nil (h : QL [] m) : wNil ρ m QL := h
theorem i_cons (h : p ρ m fun d m1 => la ρ m1 fun ds m2 => QL (d :: ds) m2) : wCons p la ρ m QL := h
theorem i_tup (h : la ρ m fun ds m1 => ds.length ≤ sizeLine ∧ Q (.tup ds) m1) : wTup la ρ m Q := h
theorem i_lst (h : la ρ m fun ds m1 => ds.length ≤ sizeLine ∧ newO (.lst ds) m1 Q) : wLst la ρ m Q := h
theorem i_call {sp : SpM} {Em : XM} (h : la ρ m fun ds m1 => sp ds m1 Q Em) : wCall sp Em la ρ m Q := h
theorem i_cb {rl : RLm} (h : la ρ m fun ds m1 => rl ds m1 Q) : wCB rl la ρ m Q := h
theorem i_I0 {g : Int → Int → D} {i j : Int} (h : Q (g i j) m) : wI0 g (.int i) (.int j) m Q := h
theorem i_I {C : Int → Int → Prop} {g : Int → Int → D} {i j : Int} (c : C i j) (h : Q (g i j) m) : wI C g (.int i) (.int j) m Q := ⟨c, h⟩
theorem i_plusI {i j : Int} (h : Q (.int (i + j)) m) : wPlus (.int i) (.int j) m Q := h
theorem i_plusS {i j : Str} (z : i.length + j.length ≤ sizeLine) (h : Q (.str (i ++ j)) m) : wPlus (.str i) (.str j) m Q := ⟨z, h⟩
theorem i_plusT {i j : List D} (z : i.length + j.length ≤ sizeLine) (h : Q (.tup (i ++ j)) m) : wPlus (.tup i) (.tup j) m Q := ⟨z, h⟩
theorem i_plusL {a b : Addr} {i j : List D} (h1 : m a = some (.lst i)) (h2 : m b = some (.lst j)) (z : i.length + j.length ≤ sizeLine) (h : newO (.lst (i ++ j)) m Q) : wPlus (.ref a) (.ref b) m Q := ⟨i, j, h1, h2, z, h⟩
theorem i_timesI {i j : Int} (c : CMul i j ∨ CMulW i j) (h : Q (.int (i * j)) m) : wTimes (.int i) (.int j) m Q := ⟨c, h⟩
theorem i_timesS {i : Str} {j : Int} (c : MulOk i j) (h : Q (.str (Txt.mul i j)) m) : wTimes (.str i) (.int j) m Q := ⟨c, h⟩
theorem i_eqq {k : Bool} (e : scD x y = some k) (h : Q (.bl k) m) : wEqq x y m Q := ⟨k, .inl e, h⟩
theorem i_neq {k : Bool} (e : scD x y = some k) (h : Q (.bl (!k)) m) : wNeq x y m Q := ⟨k, .inl e, h⟩
theorem i_eqqS {a b : Str} (h : Q (.bl (decide (a = b))) m) : wEqq (.str a) (.str b) m Q := ⟨_, .inl rfl, h⟩
theorem i_eqqI {a b : Int} (h : Q (.bl (decide (a = b))) m) : wEqq (.int a) (.int b) m Q := ⟨_, .inl rfl, h⟩
theorem i_eqqB {a b : Bool} (h : Q (.bl (decide (a = b))) m) : wEqq (.bl a) (.bl b) m Q := ⟨_, .inl rfl, h⟩
theorem i_neqS {a b : Str} (h : Q (.bl (!decide (a = b))) m) : wNeq (.str a) (.str b) m Q := ⟨_, .inl rfl, h⟩
theorem i_neqI {a b : Int} (h : Q (.bl (!decide (a = b))) m) : wNeq (.int a) (.int b) m Q := ⟨_, .inl rfl, h⟩
theorem i_neqB {a b : Bool} (h : Q (.bl (!decide (a = b))) m) : wNeq (.bl a) (.bl b) m Q := ⟨_, .inl rfl, h⟩
theorem i_subT {ds : List D} {i : Int} (e : atI ds i = some d) (h : Q d m) : wSub (.tup ds) (.int i) m Q := ⟨d, e, h⟩
theorem i_subL {a : Addr} {ds : List D} {i : Int} (e0 : rdM m a = some (.lst ds)) (e : atI ds i = some d) (h : Q d m) : wSub (.ref a) (.int i) m Q := ⟨_, e0, i, d, rfl, e, h⟩
theorem i_subK {a : Addr} {kvs : List (Key × D)} {z : Str} (e0 : rdM m a = some (.dK kvs)) (e : valD kvs (.inr z) = some d) (h : Q d m) : wSub (.ref a) (.str z) m Q := ⟨_, e0, d, ⟨.inr z, rfl, e.symm⟩, h⟩
theorem i_subD {a : Addr} {kvs : List (List Key × D)} {ks : List Key} (e0 : rdM m a = some (.dT kvs)) (n1 : ks.length ≠ 1) (n5 : ks.length ≠ 5) (e : valD kvs ks = some d) (h : Q d m) : wSub (.ref a) (.tup (ks.map kD)) m Q := ⟨_, e0, d, ⟨ks, rfl, n1, n5, e.symm⟩, h⟩
theorem i_subS {z : Str} {i : Int} {c : Nat} (l : z.length ≤ sizeLine) (e : atI z.cps.toList i = some c) (h : Q (.str ⟨#[c]⟩) m) : wSub (.str z) (.int i) m Q := ⟨l, c, e, h⟩
theorem i_isN (h : Q (.bl (isN x)) m) : wIsN x .non m Q := h
theorem i_notN (h : Q (.bl (!isN x)) m) : wNotN x .non m Q := h
theorem i_max2 {i j : Int} (h : Q (.int (if j > i then j else i)) m) : wMax2 [.int i, .int j] m Q := h
theorem i_min2 {i j : Int} (h : Q (.int (if j < i then j else i)) m) : wMin2 [.int i, .int j] m Q := h
theorem i_abs {i : Int} (h : Q (.int (if i < 0 then -i else i)) m) : wAbs [.int i] m Q := h
theorem i_intI {i : Int} (h : Q (.int i) m) : wInt1 [.int i] m Q := h
theorem i_intB {b : Bool} (h : Q (.int (if b then 1 else 0)) m) : wInt1 [.bl b] m Q := h
theorem i_lenS {z : Str} (l : z.length ≤ sizeLine) (h : Q (.int z.length) m) : wLen1 [.str z] m Q := ⟨l, h⟩
theorem i_lenT {ds : List D} (h : Q (.int ds.length) m) : wLen1 [.tup ds] m Q := h
theorem i_lenL {a : Addr} {ds : List D} (e : rdM m a = some (.lst ds)) (h : Q (.int ds.length) m) : wLen1 [.ref a] m Q := .inl ⟨ds, e, h⟩
theorem i_lenD {a : Addr} {kvs : List (Key × D)} (e : m a = some (.dK kvs)) (h : Q (.int kvs.length) m) : wLen1 [.ref a] m Q := .inr ⟨kvs, e, h⟩
theorem i_isi {t T : String} (e : tyD m x = some t) (ht : T ∈ tys) (h : Q (.bl (isiB t T)) m) : wIsi [x, .ty T] m Q := ⟨t, e, ht, h⟩
theorem i_listT {ds : List D} (h : newO (.lst ds) m Q) : wList1 [.tup ds] m Q := h
theorem i_listL {a : Addr} {ds : List D} (e : rdM m a = some (.lst ds)) (h : newO (.lst ds) m Q) : wList1 [.ref a] m Q := .inl ⟨ds, e, h⟩
theorem i_listD {a : Addr} {kvs : List (Key × D)} (e : m a = some (.dK kvs)) (h : newO (.lst (kvs.map fun p => kD p.1)) m Q) : wList1 [.ref a] m Q := .inr ⟨kvs, e, h⟩
theorem i_tupT {ds : List D} (h : Q (.tup ds) m) : wTuple1 [.tup ds] m Q := h
theorem i_tupL {a : Addr} {ds : List D} (e : rdM m a = some (.lst ds)) (h : Q (.tup ds) m) : wTuple1 [.ref a] m Q := ⟨ds, e, h⟩
theorem i_put (h : pc ρ m fun z m1 => pa ρ m1 fun x m2 => pb ρ m2 fun y m3 => refAt x fun a => ∃ o o', m3 a = some o ∧ putO o y z o' ∧ E.nx ρ (mput m3 a o')) : wPut pa pb pc E ρ m := h
theorem i_ref {a : Addr} {k : Addr → Prop} (h : k a) : refAt (.ref a) k := h
theorem i_tupAt {ds : List D} {k : List D → Prop} (h : k ds) : tupAt (.tup ds) k := h
theorem i_two {x y : D} {k : D → D → Prop} (h : k x y) : twoAt [x, y] k := h
theorem i_int1 {i : Int} {k : Int → Prop} (h : k i) : int1At [.int i] k := h
theorem i_int2 {i j : Int} {k : Int → Int → Prop} (h : k i j) : int2At [.int i, .int j] k := h
theorem i_putK {a : Addr} {kvs : List (Key × D)} {k : Str} {z : D} {R : Mem → Prop} (h1 : m a = some (.dK kvs)) (n : kvs.length < sizeLine) (h : R (mput m a (.dK (putD kvs (.inr k) z)))) :
    ∃ o o', m a = some o ∧ putO o (.str k) z o' ∧ R (mput m a o') := ⟨_, _, h1, ⟨.inr k, rfl, n, rfl⟩, h⟩
theorem i_rt {R : KM} (h : R d m) : RtM R d m := RtM.mk h
theorem i_iteT {b : Bool} {P R : Prop} (e : b = true) (h : P) : if b = true then P else R := by rw [e]; exact h
theorem i_iteF {b : Bool} {P R : Prop} (e : b = false) (h : R) : if b = true then P else R := by rw [e]; exact h
theorem i_ite {b : Bool} {P R : Prop} (h1 : b = true → P) (h2 : b = false → R) : if b = true then P else R := by
  cases b with
  | true => exact h1 rfl
  | false => exact h2 rfl
theorem i_size {α : Type} {ds : List α} {n : Nat} (h : ds.length ≤ n) (z : n ≤ 1000 := by decide) : ds.length ≤ sizeLine := Nat.le_of_lt (small1000 (Nat.le_trans h z))
theorem i_and2 {P R : Prop} (h1 : P) (h2 : R) : P ∧ R := ⟨h1, h2⟩
theorem sl {n : Nat} (h : n ≤ 1000) : n ≤ sizeLine := Nat.le_of_lt (small1000 h)
end
end Mm
namespace Mm
open PySem L2
open PyProof.Rows (envOfC)

/-! ### a list of the written part, or of the memory (the script) -/
def KL (K : PySem.W.Frag) (a : Addr) (ns : List Int) : Prop := ∃ (o : Obj) (its : Array Value) (n : Nat), K.lookup a = some o ∧ o.cls = .type "list" ∧ o.dict = none ∧ o.data = .seq its n ∧ its.size ≤ sizeLine ∧ Vals (ns.map V.int) its.toList
def LsK (K : PySem.W.Frag) (m : Mem) (a : Addr) (ns : List Int) : Prop := rdM m a = some (.lst (ns.map .int)) ∨ KL K a ns
theorem LsK.sq {K : PySem.W.Frag} {H : Hp} {m : Mem} {a : Addr} {ns : List Int} (r : RM K H m) (h : LsK K m a ns) : SqL K H a (ns.map V.int) := by
  rcases h with h | h
  · obtain ⟨xs, s, rr⟩ := rd_lst r h
    rw [reps_intsV rr] at s; exact s
  · exact .inr h
theorem LsK.put {K : PySem.W.Frag} {m : Mem} {a b : Addr} {o : O} {ns : List Int} (h : LsK K m a ns) (ne : a ≠ b) : LsK K (mput m b o) a ns := by
  rcases h with h | h
  · refine .inl ?_
    unfold rdM at h ⊢
    rw [mput_ne ne]; exact h
  · exact .inr h
section
variable {X : Cx} {B : Bs} {e tg iter k v : Expr} {ks : List (Option Expr)} {vs : List Expr} {pos : Pos} {p pa pb : TEm}
def wSubS (K : PySem.W.Frag) : R2m := fun x y m Q => match x, y with
  | .ref a, .int i => ∃ ns n, LsK K m a ns ∧ atI ns i = some n ∧ Q (.int n) m
  | _, _ => False
theorem atI_map {α β : Type} {f : α → β} {xs : List α} {i : Int} {x : α} (h : atI xs i = some x) : atI (xs.map f) i = some (f x) := by
  unfold atI at h ⊢
  rw [List.length_map]
  cases q : ixN xs.length i with
  | none => rw [q] at h; cases h
  | some j =>
    rw [q] at h
    show (xs.map f)[j]? = _
    rw [List.getElem?_map]
    have : xs[j]? = some x := h
    rw [this]; rfl
theorem mi_subS : MIx X (wSubS X.K) := mix_of ix_list fun x y v w H m Q Qm hx hy r q k => by
  unfold wSubS at q
  split at q
  · obtain ⟨ns, n, h, e, q⟩ := q
    exact ⟨_, _, _, .int n, Rep.ref_iff.mp hx, Rep.int_iff.mp hy, h.sq r, atI_map e, k _ _ _ _ q r Step.refl Rep.int⟩
  · exact q.elim
def wLenS (K : PySem.W.Frag) : RLm := fun ds m Q => match ds with
  | [.ref a] => ∃ ns, LsK K m a ns ∧ Q (.int ns.length) m
  | _ => False
theorem mc_lenS : MCall X (.builtin "len") (wLenS X.K) := mcall_of call_len fun ds vs H m Q Qm hx r q k => by
  unfold wLenS at q; split at q
  · obtain ⟨v, e, x⟩ := reps1 hx
    rw [Rep.ref_iff.mp x] at e
    obtain ⟨ns, h, q⟩ := q
    exact ⟨.ref _, _, e, Or.inl ⟨_, h.sq r, rfl⟩, by rw [List.length_map]; exact k _ _ _ _ q r Step.refl Rep.int⟩
  · exact q.elim
/-- over the script: at each turn it is looked at -/
def iLS (K : PySem.W.Frag) (p : TEm) : TIm := fun ρ m R => p ρ m fun d m1 => refAt d fun a => ∃ ns, LsK K m1 a ns ∧ R (ns.map .int) (fun m' => LsK K m' a ns) m1
theorem mi_listS (h : MX X B iter p) : MI X B tg iter (iLS X.K p) := piImp (pi_list h) fun σ H R ⟨ρ, m, Rm, A, q, k⟩ => by
  refine ⟨ρ, m, _, A, q, fun d m1 v H1 q1 r1 t1 x1 => ?_⟩
  unfold refAt at q1
  split at q1
  · obtain ⟨ns, e, q1⟩ := q1
    refine ⟨_, Rep.ref_iff.mp x1, ⟨_, e.sq r1⟩, k _ _ _ _ _ q1 r1 t1 (good_list (fun m' H' s r c => ⟨_, c.sq r, Reps.ints ns⟩) fun _ _ _ _ _ _ => trivial)⟩
  · exact q1.elim

/-! ### a displayed dict -/
def wPairs : List (TEm × TEm) → StM → Mem → (List (D × D) → Mem → Prop) → Prop
  | [], _, m, Q => Q [] m
  | (tk, tv) :: r, ρ, m, Q => tk ρ m fun x m1 => tv ρ m1 fun y m2 => wPairs r ρ m2 fun ps m3 => Q ((x, y) :: ps) m3
def MPs (X : Cx) (B : Bs) (pos : Pos) (keys : List (Option Expr)) (values : List Expr) (ps : List (TEm × TEm)) : Prop := PPs X pos keys values (ps.map fun p => (uE X.K B p.1, uE X.K B p.2))
theorem mps_nil : MPs X B pos [] [] [] := pps_nil
theorem mps_cons {ps : List (TEm × TEm)} (hk : MX X B k pa) (hv : MX X B v pb) (hr : MPs X B pos ks vs ps) : MPs X B pos (some k :: ks) (v :: vs) ((pa, pb) :: ps) := pps_cons hk hv hr
def mergeD (kvs more : List (Key × D)) : List (Key × D) := more.foldl (fun acc kv => putD acc kv.1 kv.2) kvs
theorem KVs.merge {K : PySem.W.Frag} {H : Hp} : ∀ {more : List (Key × D)} {rs : List (Key × V)} {kvs : List (Key × D)} {ws : List (Key × V)}, KVs K H more rs → KVs K H kvs ws → KVs K H (mergeD kvs more) (mergeK ws rs) := by
  intro more rs kvs ws r
  unfold KVs at r
  induction r generalizing kvs ws with
  | nil => intro q; exact q
  | @cons p q ps qs h t ih =>
    intro r0
    have e : KVs K H (putD kvs p.1 p.2) (putK ws q.1 q.2) := by
      have := KVs.put (k := p.1) h.2 r0
      rw [← h.1]; exact this
    exact ih e
def wDisp (ps : List (TEm × TEm)) : TEm := fun ρ m Q => wPairs ps ρ m fun prs m' => ∃ kvs : List (Key × D), prs = kvs.map (fun kv => (kD kv.1, kv.2)) ∧ kvs.length ≤ 15 ∧ newO (.dK (mergeD [] kvs)) m' Q
abbrev PairV (K : PySem.W.Frag) (H : Hp) : List (D × D) → List (V × V) → Prop := Paired fun p q => Rep K H p.1 q.1 ∧ Rep K H p.2 q.2
theorem pairs_go {K : PySem.W.Frag} : ∀ (ps : List (TEm × TEm)) {σ : St} {H : Hp} {ρ : StM} {m : Mem} {Qm : List (D × D) → Mem → Prop} {Q : List (V × V) → Hp → Prop}, At K B σ H ρ m → wPairs ps ρ m Qm →
    (∀ prs m' vs H', Qm prs m' → RM K H' m' → Step m H m' H' → PairV K H' prs vs → Q vs H') → tPairs (ps.map fun p => (uE K B p.1, uE K B p.2)) σ H Q
  | [], σ, H, ρ, m, Qm, Q, A, q, k => k _ _ _ _ q A.r Step.refl .nil
  | (tk, tv) :: r, σ, H, ρ, m, Qm, Q, A, q, k => by
    refine ⟨ρ, m, _, A, q, fun x m1 v H1 q1 r1 t1 x1 => ?_⟩
    refine ⟨ρ, m1, _, A.step r1 t1, q1, fun y m2 w H2 q2 r2 t2 x2 => ?_⟩
    refine pairs_go r ((A.step r1 t1).step r2 t2) q2 fun prs m3 ws H3 q3 r3 t3 x3 => ?_
    exact k _ _ _ _ q3 r3 (t1.trans (t2.trans t3)) (.cons ⟨(x1.stay (t2.tups r1)).stay (t3.tups r2), x2.stay (t3.tups r2)⟩ x3)
theorem pairV_kvs {K : PySem.W.Frag} {H : Hp} : ∀ {kvs : List (Key × D)} {vs : List (V × V)}, PairV K H (kvs.map fun kv => (kD kv.1, kv.2)) vs → ∃ ws : List (Key × V), vs = ws.map (fun kv => (kV kv.1, kv.2)) ∧ KVs K H kvs ws
  | [], _, h => by rw [List.map_nil] at h; cases h; exact ⟨[], rfl, .nil⟩
  | p :: kvs, _, h => by
    rw [List.map_cons] at h
    cases h with
    | @cons a b as bs h t =>
      obtain ⟨ws, e, r⟩ := pairV_kvs t
      obtain ⟨b1, b2⟩ := b
      have e1 : b1 = kV p.1 := kD_rep h.1
      subst e1
      exact ⟨(p.1, b2) :: ws, by rw [e]; rfl, .cons ⟨rfl, h.2⟩ r⟩
/-- what is hidden is written, and told -/
theorem RM.told {K : PySem.W.Frag} {H : Hp} {m : Mem} (r : RM K H m) {p : Addr} {u u' : HO} {o : O} (hp : H p = some u) (nt : ∀ xs, u ≠ .tup xs) (nf : ∀ ob v, u ≠ .frz ob v) (mp : m p = none) (x : RepO K H o u') :
    RM K (upd H p u') (mput m p o) ∧ TupS K H (upd H p u') := by
  have ts : TupS K H (upd H p u') := by
    have ne : ∀ a o, H a = some o → (o ≠ u) → upd H p u' a = some o := fun a o h1 h2 => by
      rw [upd_ne]; exact h1
      rintro rfl; rw [hp] at h1; cases h1; exact h2 rfl
    intro a ys n hy
    rcases hy with hy | ⟨z, hy⟩
    · exact .inl (ne _ _ hy fun z => nt _ z.symm)
    · refine .inr ⟨z, ?_⟩
      rcases hy with (hy | ⟨ob, hy⟩) | hy
      · exact .inl (.inl (ne _ _ hy fun z => nt _ z.symm))
      · exact .inl (.inr ⟨ob, ne _ _ hy fun z => nf _ _ z.symm⟩)
      · exact .inr hy
  refine ⟨fun a o' e => ?_, ts⟩
  by_cases ne : a = p
  · subst ne
    rw [mput_same] at e; cases e
    exact ⟨u', upd_same, x.stay ts⟩
  · rw [mput_ne ne] at e
    obtain ⟨v, h1, h2⟩ := r a o' e
    exact ⟨v, by rw [upd_ne ne]; exact h1, h2.stay ts⟩
theorem mx_disp {keys : List (Option Expr)} {values : List Expr} {ps : List (TEm × TEm)} (h : MPs X B pos keys values ps) (hall : keys.all (·.isSome) = true := by rfl) (hl : keys.length = values.length := by rfl) (h0 : keys ≠ [] := by exact fun z => nomatch z)
    (h15 : keys.length ≤ 15 := by decide) : MX X B (.Dict keys values pos) (wDisp ps) := peImp (pe_disp h hall hl h0 h15) fun σ H Q ⟨ρ, m, Qm, A, q, k⟩ => by
  intro p hp
  have A1 : At X.K B σ (upd H p (.dK [])) ρ m := A.step (A.r.hid hp) (Step.hid A.r hp)
  refine pairs_go ps A1 q fun prs m' vs H2 ⟨kvs, e, z, q2⟩ r2 t2 x2 => ?_
  have mp : m p = none := A.r.out hp
  obtain ⟨e2, n2⟩ := t2 p _ upd_same (.inl mp)
  have mp2 : m' p = none := by
    rcases n2 with n2 | ⟨o, n2⟩
    · exact n2
    · obtain ⟨w, h1, ob, v, e6, _⟩ := r2 p _ n2
      rw [e2] at h1; cases h1; cases e6
  subst e
  obtain ⟨ws, e3, kv⟩ := pairV_kvs x2
  obtain ⟨r3, ts⟩ := r2.told (u' := .dK (mergeK [] ws)) (o := .dK (mergeD [] kvs)) e2 (fun _ z => by cases z) (fun _ _ z => by cases z) mp2 ⟨_, rfl, kv.merge .nil⟩
  refine ⟨e2, ws, e3, by rw [← kv.length]; exact z, k _ _ _ _ (q2 p mp2) r3 ?_ Rep.ref⟩
  intro a w h1 n1
  have ne : a ≠ p := by rintro rfl; rw [hp] at h1; cases h1
  obtain ⟨h2, n2⟩ := t2 a w (by rw [upd_ne ne]; exact h1) n1
  refine ⟨by rw [upd_ne ne]; exact h2, ?_⟩
  rcases n2 with n2 | ⟨o, n2⟩
  · exact .inl (by rw [mput_ne ne]; exact n2)
  · exact .inr ⟨o, by rw [mput_ne ne]; exact n2⟩

/-! ### slices -/
def cutL {α : Type} (xs : List α) (lo hi : Option Int) : List α := (xs.drop (HT.sIx xs.length 0 lo)).take (HT.sIx xs.length xs.length hi - HT.sIx xs.length 0 lo)
abbrev TOm := StM → Mem → (Option Int → Mem → Prop) → Prop
def uO (K : PySem.W.Frag) (B : Bs) (p : TOm) : TO := fun σ H Q => ∃ ρ m Qm, At K B σ H ρ m ∧ p ρ m Qm ∧ ∀ d m' H', Qm d m' → RM K H' m' → Step m H m' H' → Q d H'
def MO (X : Cx) (B : Bs) (e : Option Expr) (p : TOm) : Prop := PO X e (uO X.K B p)
theorem poImp {e : Option Expr} {t t' : TO} (h : PO X e t) (i : ∀ σ H Q, t' σ H Q → t σ H Q) : PO X e t' := ⟨fun pins s σ H Q I q => h.run pins s σ H Q I (i _ _ _ q)⟩
def wNoPart : TOm := fun _ m Q => Q none m
def intAt (d : D) (k : Int → Prop) : Prop := match d with
  | .int i => k i
  | _ => False
theorem i_intAt {i : Int} {k : Int → Prop} (h : k i) : intAt (.int i) k := h
def wPart (p : TEm) : TOm := fun ρ m Q => p ρ m fun d m1 => intAt d fun i => Q (some i) m1
theorem mo_none : MO X B none wNoPart := poImp po_none fun σ H Q ⟨ρ, m, Qm, A, q, k⟩ => k _ _ _ q A.r Step.refl
theorem mo_some (h : MX X B e p) : MO X B (some e) (wPart p) := poImp (po_some h) fun σ H Q ⟨ρ, m, Qm, A, q, k⟩ => by
  refine ⟨ρ, m, _, A, q, fun d m1 v H1 q1 r1 t1 x1 => ?_⟩
  unfold intAt at q1
  split at q1
  · exact ⟨_, Rep.int_iff.mp x1, k _ _ _ q1 r1 t1⟩
  · exact q1.elim
def wSlV (x : D) (lo hi : Option Int) (m3 : Mem) (Q : KM) : Prop := match x with
  | .tup ds => Q (.tup (cutL ds lo hi)) m3
  | .ref a => ∃ ds, rdM m3 a = some (.lst ds) ∧ newO (.lst (cutL ds lo hi)) m3 Q
  | .str z => z.length ≤ sizeLine ∧ Q (.str (cutS z lo hi)) m3
  | _ => False
theorem i_slT {ds : List D} {lo hi : Option Int} {m : Mem} {Q : KM} (q : Q (.tup (cutL ds lo hi)) m) : wSlV (.tup ds) lo hi m Q := q
theorem i_slL {a : Addr} {ds : List D} {lo hi : Option Int} {m : Mem} {Q : KM} (e : rdM m a = some (.lst ds)) (q : newO (.lst (cutL ds lo hi)) m Q) : wSlV (.ref a) lo hi m Q := ⟨ds, e, q⟩
theorem i_slS {z : Str} {lo hi : Option Int} {m : Mem} {Q : KM} (l : z.length ≤ sizeLine) (q : Q (.str (cutS z lo hi)) m) : wSlV (.str z) lo hi m Q := ⟨l, q⟩
def wSl (pe : TEm) (pl ph : TOm) : TEm := fun ρ m Q => pe ρ m fun x m1 => pl ρ m1 fun lo m2 => ph ρ m2 fun hi m3 => wSlV x lo hi m3 Q
theorem reps_cut {K : PySem.W.Frag} {H : Hp} {ds : List D} {vs : List V} (h : Reps K H ds vs) (lo hi : Option Int) : Reps K H (cutL ds lo hi) (cutV vs lo hi) := by
  unfold cutL cutV
  rw [h.length]
  exact (h.drop _).take _
theorem mx_slice {lo hi : Option Expr} {pl ph : TOm} {p2 : Pos} (he : MX X B e p) (hl : MO X B lo pl) (hu : MO X B hi ph) : MX X B (.Subscript e (.Slice lo hi none p2) pos) (wSl p pl ph) :=
  peImp (pe_slice ((SlR.or sl_tupA (SlR.or sl_list sl_str))) he hl hu) fun σ H Q ⟨ρ, m, Qm, A, q, k⟩ => by
  refine ⟨ρ, m, _, A, q, fun d m1 v H1 q1 r1 t1 x1 => ?_⟩
  refine ⟨ρ, m1, _, A.step r1 t1, q1, fun l m2 H2 q2 r2 t2 => ?_⟩
  refine ⟨ρ, m2, _, (A.step r1 t1).step r2 t2, q2, fun h m3 H3 q3 r3 t3 => ?_⟩
  have t := t1.trans (t2.trans t3)
  have x3 := (x1.stay (t2.tups r1)).stay (t3.tups r2)
  unfold wSlV at q3
  split at q3
  · rename_i ds
    obtain ⟨a, xs, e1, s, rr⟩ := Rep.tup_iff.mp x3
    refine .inl ⟨a, xs, e1, s.sq, fun z => ?_, fun _ p hp => ?_⟩
    · have e2 : cutL ds l h = ds := by
        unfold cutL
        rw [rr.length, z.1, z.2, List.drop_zero, Nat.sub_zero, ← rr.length]
        exact List.take_length
      rw [e2] at q3
      exact k _ _ _ _ q3 r3 t (by rw [← e1]; exact x3)
    · have th : Step m3 H3 m3 (upd H3 p (.tup (cutV xs l h))) := Step.hid r3 hp
      exact k _ _ _ _ q3 (r3.hid hp) (t.trans th) (Rep.tup_iff.mpr ⟨p, _, rfl, TupAt.of upd_same, (reps_cut rr l h).stay (th.tups r3)⟩)
  · obtain ⟨ds, e1, q3⟩ := q3
    obtain ⟨xs, s, rr⟩ := rd_lst r3 e1
    exact .inr (.inl ⟨_, xs, Rep.ref_iff.mp x3, s, new_go q3 r3 t ⟨_, rfl, reps_cut rr l h⟩ k⟩)
  · exact .inr (.inr ⟨_, Rep.str_iff.mp x3, q3.1, k _ _ _ _ q3.2 r3 t Rep.str⟩)
  · exact q3.elim

/-! ### dict(d), sorted -/
end
end Mm
namespace Mm
open PySem L2
open PyProof.Rows (envOfC)

/-! ### the keys of a dict, walked -/
def keysO (o : O) (ds : List D) : Prop := match o with
  | .dK kvs => ds = kvs.map fun p => kD p.1
  | .dT kvs => ds = kvs.map (fun p => .tup (p.1.map kD)) ∧ ∀ p ∈ kvs, p.1.length ≠ 1 ∧ p.1.length ≠ 5
  | _ => False
section
variable {X : Cx} {B : Bs} {e elt tg iter : Expr} {ifs : List Expr} {body : List Stmt} {pos : Pos} {p : TEm}
def iK (p : TEm) : TIm := fun ρ m R => p ρ m fun d m1 => refAt d fun a => ∃ o ds, m1 a = some (.frz o) ∧ keysO o ds ∧ R ds (fun _ => True) m1
theorem kvs_at {K : PySem.W.Frag} {H : Hp} {κ : Type} {a : List (κ × D)} {b : List (κ × V)} (h : KVs K H a b) : ∀ {i : Nat} {p : κ × V}, b[i]? = some p → ∃ q, a[i]? = some q ∧ q.1 = p.1 := by
  unfold KVs at h
  induction h with
  | nil => intro i p e; simp at e
  | cons h r ih =>
    intro i p e
    cases i with
    | zero => simp at e; subst e; exact ⟨_, by simp, h.1⟩
    | succ i => simpa using ih (by simpa using e)
theorem mi_keys (h : MX X B iter p) : MI X B tg iter (iK p) := piImp (pi_keys h) fun σ H R ⟨ρ, m, Rm, A, q, k⟩ => by
  refine ⟨ρ, m, _, A, q, fun d m1 v H1 q1 r1 t1 x1 => ?_⟩
  unfold refAt at q1
  split at q1
  · rename_i a
    obtain ⟨o, ds, e, ky, q1⟩ := q1
    obtain ⟨u, h1, ob, w, rfl, h2⟩ := r1 _ _ e
    have stay : ∀ m' H', Step m1 H1 m' H' → H' a = some (.frz ob w) := fun m' H' s => (s a _ h1 (.inr ⟨_, e⟩)).1
    unfold keysO at ky
    split at ky
    · rename_i kvs
      subst ky
      obtain ⟨xs, rfl, kv⟩ := h2
      refine ⟨_, ob, Rep.ref_iff.mp x1, .inl ⟨xs, h1, k _ _ _ _ _ q1 r1 t1 fun i m' H' s r c => ?_⟩⟩
      have h3 := stay m' H' s
      refine ⟨fun d e2 => ?_, fun e2 => ⟨h3, by rw [← kv.length]; simpa using e2⟩⟩
      rw [List.getElem?_map] at e2
      obtain ⟨pr, e3, e4⟩ := Option.map_eq_some_iff.mp e2
      have hi : i < xs.length := by rw [← kv.length]; exact (List.getElem?_eq_some_iff.mp e3).1
      refine ⟨⟨h3, hi⟩, fun x H2 y => ?_⟩
      obtain ⟨rfl, k', v', e5, rfl⟩ := y
      obtain ⟨q', e6, e7⟩ := kvs_at kv e5
      rw [e3] at e6; cases e6
      refine ⟨r, Step.refl, ?_⟩
      rw [← e4, e7]; exact rep_kD
    · rename_i kvs
      obtain ⟨ky, kn⟩ := ky
      subst ky
      obtain ⟨xs, rfl, kv⟩ := h2
      refine ⟨_, ob, Rep.ref_iff.mp x1, .inr ⟨xs, h1, k _ _ _ _ _ q1 r1 t1 fun i m' H' s r c => ?_⟩⟩
      have h3 := stay m' H' s
      refine ⟨fun d e2 => ?_, fun e2 => ⟨h3, by rw [← kv.length]; simpa using e2⟩⟩
      rw [List.getElem?_map] at e2
      obtain ⟨pr, e3, e4⟩ := Option.map_eq_some_iff.mp e2
      have hi : i < xs.length := by rw [← kv.length]; exact (List.getElem?_eq_some_iff.mp e3).1
      refine ⟨⟨h3, hi⟩, fun x H2 y => ?_⟩
      obtain ⟨rfl, k', v', qa, e5, rfl, ht⟩ := y
      obtain ⟨q', e6, e7⟩ := kvs_at kv e5
      rw [e3] at e6; cases e6
      refine ⟨r, Step.refl, ?_⟩
      rw [← e4, e7]
      exact Rep.tup_iff.mpr ⟨qa, _, rfl, .inl ht, reps_kDs⟩
    · exact ky.elim
  · exact q1.elim
theorem unlock_tups {K : PySem.W.Frag} {H' : Hp} {m' : Mem} {a : Addr} {u : HO} {od : Obj} (r' : RM K H' m') (e1 : H' a = some (.frz od u)) (mu : Mut (some u)) : TupS K H' (upd H' a u) := by
  have ne : ∀ b w, H' b = some w → (∀ ob v, w ≠ .frz ob v) → upd H' a u b = some w := fun b w hb hw => by
    rw [upd_ne]; exact hb
    rintro rfl; rw [e1] at hb; cases hb; exact hw _ _ rfl
  intro b ys n hy
  rcases hy with hy | ⟨z, hy⟩
  · exact .inl (ne _ _ hy fun _ _ z => by cases z)
  · refine .inr ⟨z, ?_⟩
    rcases hy with (hy | ⟨ob, hy⟩) | hy
    · exact .inl (.inl (ne _ _ hy fun _ _ z => by cases z))
    · by_cases eb : b = a
      · subst eb
        rw [e1] at hy; cases hy
        exact False.elim mu
      · exact .inl (.inr ⟨ob, by rw [upd_ne eb]; exact hy⟩)
    · exact .inr hy
/-- locking a dict -/
theorem lock_go {K : PySem.W.Frag} {H : Hp} {m : Mem} {a : Addr} {o : O} {ds : List D} (r : RM K H m) (e : m a = some o) (ky : keysO o ds) :
    ∃ u, H a = some u ∧ Mut (some u) ∧ Wr o ∧ ∀ od, RM K (upd H a (.frz od u)) (mput m a (.frz o)) ∧ Step m H (mput m a (.frz o)) (upd H a (.frz od u)) := by
  obtain ⟨u, h1, h2⟩ := r a o e
  have mu : Mut (some u) ∧ Wr o := by
    unfold keysO at ky
    split at ky
    · obtain ⟨xs, rfl, _⟩ := h2; exact ⟨trivial, trivial⟩
    · obtain ⟨xs, rfl, _⟩ := h2; exact ⟨trivial, trivial⟩
    · exact ky.elim
  exact ⟨u, h1, mu.1, mu.2, fun od => ⟨r.put e mu.2 ⟨od, u, rfl, h2⟩, Step.put r e mu.2⟩⟩
theorem unlock_go {K : PySem.W.Frag} {H H' : Hp} {m m' : Mem} {a : Addr} {o : O} {u : HO} {od : Obj} {ds : List D} (r : RM K H m) (e : m a = some o) (ky : keysO o ds) (h1 : H a = some u) (h2 : RepO K H o u) (mu : Mut (some u))
    (r' : RM K H' m') (t : Step (mput m a (.frz o)) (upd H a (.frz od u)) m' H') : H' a = some (.frz od u) ∧ RM K (upd H' a u) (mput m' a o) ∧ Step m H (mput m' a o) (upd H' a u) := by
  have e1 : H' a = some (.frz od u) := (t a _ upd_same (.inr ⟨o, mput_same⟩)).1
  have n1 : Nm m' a := (t a _ upd_same (.inr ⟨o, mput_same⟩)).2
  have ts0 : TupS K H (upd H a (.frz od u)) := by
    have w : Wr o := by
      unfold keysO at ky
      split at ky
      · trivial
      · trivial
      · exact ky.elim
    exact (Step.put (u := .frz od u) (o := .frz o) r e w).tups r
  have rl : RM K (upd H a (.frz od u)) (mput m a (.frz o)) := by
    have w : Wr o := by
      unfold keysO at ky
      split at ky
      · trivial
      · trivial
      · exact ky.elim
    exact r.put e w ⟨od, u, rfl, h2⟩
  have ts1 : TupS K H H' := fun b ys n hy => t.tups rl b ys n (ts0 b ys n hy)
  have ts2 : TupS K H' (upd H' a u) := unlock_tups r' e1 mu
  refine ⟨e1, fun b ob hb => ?_, fun b w hb n => ?_⟩
  · by_cases eb : b = a
    · subst eb
      rw [mput_same] at hb; cases hb
      exact ⟨u, upd_same, (h2.stay ts1).stay ts2⟩
    · rw [mput_ne eb] at hb
      obtain ⟨w, z1, z2⟩ := r' b ob hb
      exact ⟨w, by rw [upd_ne eb]; exact z1, z2.stay ts2⟩
  · have eb : b ≠ a := by
      rintro rfl
      have w : Wr o := by
        unfold keysO at ky
        split at ky
        · trivial
        · trivial
        · exact ky.elim
      exact nm_wr e w n
    obtain ⟨z1, z2⟩ := t b w (by rw [upd_ne eb]; exact hb) (by
      rcases n with n | ⟨o', n⟩
      · exact .inl (by rw [mput_ne eb]; exact n)
      · exact .inr ⟨o', by rw [mput_ne eb]; exact n⟩)
    refine ⟨by rw [upd_ne eb]; exact z1, ?_⟩
    rcases z2 with n | ⟨o', n⟩
    · exact .inl (by rw [mput_ne eb]; exact n)
    · exact .inr ⟨o', by rw [mput_ne eb]; exact n⟩
/-- [elt for k in d], d the dict in slot i -/
def wLcK (i : Nat) (g : TGm) (tt : TTm) (te : TEm) (vs : List Nat) : TEm := fun ρ m Q => ∃ a o ds, ρ[i]? = some (some (.ref a)) ∧ m a = some o ∧ keysO o ds ∧
  lcC (fun _ => True) g tt te vs ρ (fun acc m' => ∀ p, p ≠ a → m' p = none → Q (.ref p) (mput (mput m' a o) p (.lst acc))) ds [] (mput m a (.frz o))
theorem mx_lcK {i : Nat} {scope : Scope} {own : List (Str × Nat)} {g : TGm} {g0 : TG} {tt : TTm} {te : TEm} (hc : X.calm = true) (hN : X.N.Nodup) (hi : MX X B iter (wVar i)) (ok : BlkOk X.N X.env.scope scope own)
    (hg : ∀ (s : Shared) (H : Hp) (C : Addr) (cl : List (Str × Addr)) (fp : List Addr), PG (X.blk s H scope (compEnvC scope cl C X.env) fp) tg g0) (gk : GOk X.K B g g0 (own.map (·.2)))
    (ht : ∀ (s : Shared) (H : Hp) (C : Addr) (cl : List (Str × Addr)) (fp : List Addr), MTs (X.blk s H scope (compEnvC scope cl C X.env) fp) B ifs tt)
    (he : ∀ (s : Shared) (H : Hp) (C : Addr) (cl : List (Str × Addr)) (fp : List Addr), MX (X.blk s H scope (compEnvC scope cl C X.env) fp) B elt te) (hs : ∀ x, foldedSetIterable iter X.env x = pure x := by intro _; rfl) :
    MX X B (.ListComp elt [⟨tg, iter, ifs, 0⟩] scope pos) (wLcK i g tt te (own.map (·.2))) :=
  peImp (pe_lock (pe_lc (tt := uT X.K B tt) (te := uE X.K B te) hc hN (mi_keys (tg := tg) hi) ok hg ht he hs)) fun σ H Q ⟨ρ, m, Qm, A, ⟨a, o, ds, ei, e, ky, q⟩, k⟩ => by
  obtain ⟨u, h1, mu, w, lk⟩ := lock_go A.r e ky
  obtain ⟨u', h1', h2⟩ := A.r a o e
  rw [h1] at h1'; cases h1'
  refine ⟨a, u, h1, mu, fun od => ?_⟩
  obtain ⟨r1, t1⟩ := lk od
  refine lc_gen gk (A.step r1 t1) (QA := fun acc m' => ∀ p, p ≠ a → m' p = none → Qm (.ref p) (mput (mput m' a o) p (.lst acc))) ⟨.ref a, ei, o, ds, mput_same, ky, q⟩ fun acc m' L H' qa mL r t hL => ?_
  obtain ⟨z1, z2, z3⟩ := unlock_go A.r e ky h1 h2 mu r t
  have ne : L ≠ a := by
    rintro rfl
    obtain ⟨xs, hL⟩ := hL
    rw [z1] at hL; cases hL
  refine ⟨z1, ?_⟩
  have := qa L ne mL
  rw [mput_comm (Ne.symm ne)] at this
  exact k _ _ _ _ this z2 z3 Rep.ref
/-- for k in d, d the dict in slot i -/
def wForK (i : Nat) (g : TGm) (tb : TSm) : TSm := fun E ρ m => ∃ a o ds, ρ[i]? = some (some (.ref a)) ∧ m a = some o ∧ keysO o ds ∧
  forC (fun _ => True) g tb { nx := fun ρ' m' => E.nx ρ' (mput m' a o), rt := fun d m' => E.rt d (mput m' a o), bk := fun ρ' m' => E.bk ρ' (mput m' a o), ct := fun ρ' m' => E.ct ρ' (mput m' a o) } ds ρ (mput m a (.frz o))
theorem ms_forK {i : Nat} {g : TGm} {tb : TSm} (hp : PassesOwn (model X.prog X.w) X.A X.env X.xe) (hc : X.calm = true) (hi : MX X B iter (wVar i)) (hg : MG X B tg g) (hb : MSs X B body tb)
    (hs : ∀ x, foldedSetIterable iter X.env x = pure x := by intro _; rfl) : MS X B (.For tg iter body [] pos) (wForK i g tb) := psImp (ps_lock (ms_for hp hc (mi_keys hi) hg hb hs)) fun D σ H ⟨ρ, m, E, A, ⟨a, o, ds, ei, e, ky, q⟩, n, rt, bk, ct⟩ => by
  obtain ⟨u, h1, mu, w, lk⟩ := lock_go A.r e ky
  obtain ⟨u', h1', h2⟩ := A.r a o e
  rw [h1] at h1'; cases h1'
  refine ⟨a, u, h1, mu, fun od => ?_⟩
  obtain ⟨r1, t1⟩ := lk od
  refine ⟨ρ, mput m a (.frz o), _, A.step r1 t1, ⟨.ref a, ei, o, ds, mput_same, ky, q⟩, ?_, ?_, ?_, ?_⟩
  · intro ρ' m' σ' H' q' r' t' s'
    obtain ⟨z1, z2, z3⟩ := unlock_go A.r e ky h1 h2 mu r' t'
    refine ⟨z1, n _ _ _ _ q' z2 z3 (s'.stay ?_)⟩
    exact (unlock_tups r' z1 mu)
  · intro d m' v H' q' r' t' x'
    obtain ⟨z1, z2, z3⟩ := unlock_go A.r e ky h1 h2 mu r' t'
    exact ⟨z1, rt _ _ _ _ q' z2 z3 (x'.stay (unlock_tups r' z1 mu))⟩
  · intro ρ' m' σ' H' q' r' t' s'
    obtain ⟨z1, z2, z3⟩ := unlock_go A.r e ky h1 h2 mu r' t'
    exact ⟨z1, bk _ _ _ _ q' z2 z3 (s'.stay (unlock_tups r' z1 mu))⟩
  · intro ρ' m' σ' H' q' r' t' s'
    obtain ⟨z1, z2, z3⟩ := unlock_go A.r e ky h1 h2 mu r' t'
    exact ⟨z1, ct _ _ _ _ q' z2 z3 (s'.stay (unlock_tups r' z1 mu))⟩
/-! ### dict(d) -/
def wDict1 : RLm := fun ds m Q => match ds with
  | [.ref a] => ∃ kvs, rdM m a = some (.dK kvs) ∧ newO (.dK kvs) m Q
  | _ => False
theorem mc_dict1 : MCall X (.type "dict") wDict1 := mcall_of call_dictD fun ds vs H m Q Qm hx r q k => by
  unfold wDict1 at q; split at q
  · obtain ⟨v, e, x⟩ := reps1 hx
    rw [Rep.ref_iff.mp x] at e
    obtain ⟨kvs, e1, q⟩ := q
    obtain ⟨u, h1, xs, rfl, kv⟩ := rd_go r e1
    exact ⟨_, xs, e, h1, new_go q r Step.refl ⟨_, rfl, kv⟩ k⟩
  · exact q.elim
end
end Mm
namespace Mm
open PySem L2
open PyProof.Rows (envOfC)

/-! ### x in y -/
def flD : D → Bool
  | .int _ => true
  | .str _ => true
  | .bl _ => true
  | .non => true
  | _ => false
def eqF : D → D → Bool
  | .int i, .int j => i == j
  | .str i, .str j => i == j
  | .bl i, .bl j => i == j
  | .non, .non => true
  | .bl i, .int j => (if i then 1 else 0) == j
  | .int j, .bl i => j == (if i then 1 else 0)
  | _, _ => false
def seqD (m : Mem) (y : D) (ds : List D) : Prop := y = .tup ds ∨ ∃ a, y = .ref a ∧ rdM m a = some (.lst ds)
/-- x in y gives k -/
def InB (m : Mem) (x y : D) (k : Bool) : Prop :=
  (∃ ds, seqD m y ds ∧ flD x = true ∧ ds.all flD = true ∧ k = ds.any fun z => eqF z x) ∨
  (∃ c z, x = .str ⟨#[c]⟩ ∧ y = .str z ∧ k = decide (c ∈ z.cps.toList)) ∨
  (∃ a o r, y = .ref a ∧ rdM m a = some o ∧ getO o x r ∧ k = r.isSome) ∨
  ∃ t ts, Vw m x t ∧ Vw m y (.list ts) ∧ SeqAt.shaped t = true ∧ SeqAt.shaped (.list ts) = true ∧ k = ts.any fun z => PyData.eqv z t
theorem seqD_go {K : PySem.W.Frag} {H : Hp} {m : Mem} {y : D} {v : V} {ds : List D} (r : RM K H m) (h : seqD m y ds) (x : Rep K H y v) : ∃ p xs, v = .ref p ∧ (SqL K H p xs ∨ SqT K H p xs) ∧ Reps K H ds xs := by
  rcases h with rfl | ⟨a, rfl, e⟩
  · obtain ⟨a, xs, e, s, rr⟩ := Rep.tup_iff.mp x
    exact ⟨a, xs, e, .inr s.sq, rr⟩
  · obtain ⟨xs, s, rr⟩ := rd_lst r e
    exact ⟨a, xs, Rep.ref_iff.mp x, .inl s, rr⟩
theorem flD_flat {K : PySem.W.Frag} {H : Hp} {x : D} {v : V} (h : flD x = true) (r : Rep K H x v) : flatV v = true := by
  cases x with
  | int i => rw [Rep.int_iff.mp r]; rfl
  | str i => rw [Rep.str_iff.mp r]; rfl
  | bl i => rw [Rep.bl_iff.mp r]; rfl
  | non => rw [Rep.non_iff.mp r]; rfl
  | _ => cases h
theorem eqF_eqV {K : PySem.W.Frag} {H : Hp} {x z : D} {v w : V} (hx : flD x = true) (hz : flD z = true) (rx : Rep K H x v) (rz : Rep K H z w) : eqV w v = eqF z x := by
  cases x with
  | int i =>
    rw [Rep.int_iff.mp rx]
    cases z with
    | int j => rw [Rep.int_iff.mp rz]; simp [eqV, eqF]
    | str j => rw [Rep.str_iff.mp rz]; simp [eqV, eqF]
    | bl j => rw [Rep.bl_iff.mp rz]; simp [eqV, eqF]
    | non => rw [Rep.non_iff.mp rz]; simp [eqV, eqF]
    | _ => cases hz
  | str i =>
    rw [Rep.str_iff.mp rx]
    cases z with
    | int j => rw [Rep.int_iff.mp rz]; simp [eqV, eqF]
    | str j => rw [Rep.str_iff.mp rz]; simp [eqV, eqF]
    | bl j => rw [Rep.bl_iff.mp rz]; simp [eqV, eqF]
    | non => rw [Rep.non_iff.mp rz]; simp [eqV, eqF]
    | _ => cases hz
  | bl i =>
    rw [Rep.bl_iff.mp rx]
    cases z with
    | int j => rw [Rep.int_iff.mp rz]; simp [eqV, eqF]
    | str j => rw [Rep.str_iff.mp rz]; simp [eqV, eqF]
    | bl j => rw [Rep.bl_iff.mp rz]; simp [eqV, eqF]
    | non => rw [Rep.non_iff.mp rz]; simp [eqV, eqF]
    | _ => cases hz
  | non =>
    rw [Rep.non_iff.mp rx]
    cases z with
    | int j => rw [Rep.int_iff.mp rz]; simp [eqV, eqF]
    | str j => rw [Rep.str_iff.mp rz]; simp [eqV, eqF]
    | bl j => rw [Rep.bl_iff.mp rz]; simp [eqV, eqF]
    | non => rw [Rep.non_iff.mp rz]; simp [eqV, eqF]
    | _ => cases hz
  | _ => cases hx
theorem inV_go {K : PySem.W.Frag} {H : Hp} {x : D} {v : V} (hx : flD x = true) (rx : Rep K H x v) : ∀ {ds : List D} {xs : List V}, ds.all flD = true → Reps K H ds xs → xs.all flatV = true ∧ inV v xs = ds.any fun z => eqF z x
  | [], _, _, r => by rw [Reps.nil_iff.mp r]; exact ⟨rfl, rfl⟩
  | z :: ds, _, h, r => by
    obtain ⟨w, ws, rfl, r1, r2⟩ := Reps.cons_iff.mp r
    have h1 : flD z = true ∧ ds.all flD = true := by simpa using h
    obtain ⟨i1, i2⟩ := inV_go hx rx h1.2 r2
    refine ⟨by rw [List.all_cons, flD_flat h1.1 r1, i1]; rfl, ?_⟩
    unfold inV at i2 ⊢
    rw [List.any_cons, List.any_cons, i2, eqF_eqV hx h1.1 rx r1]
section
variable {X : Cx}
def rDI (neg : Bool) : R2 := fun y x H Q => ∃ a o, x = .ref a ∧ DGet H a y o ∧ Q (.bl (if neg then !o.isSome else o.isSome)) H
theorem op_inDk (hu : X.A.units + 1 < cLine) : OpR X (compareOp .In) (rDI false) := by
  intro pins s σ H y x v u Q I ry rx h
  obtain ⟨a, o, rfl, g, q⟩ := h
  obtain rfl : u = Value.ref a := rx
  exact d_in hu I g ry fun s3 I3 => ⟨.bl o.isSome, H, I3, rfl, q⟩
theorem op_notinDk (hu : X.A.units + 1 < cLine) : OpR X (compareOp .NotIn) (rDI true) := by
  intro pins s σ H y x v u Q I ry rx h
  obtain ⟨a, o, rfl, g, q⟩ := h
  obtain rfl : u = Value.ref a := rx
  exact d_notIn hu I g ry fun s3 I3 => ⟨.bl (!o.isSome), H, I3, rfl, q⟩
def wInn : R2m := fun x y m Q => ∃ k, InB m x y k ∧ Q (.bl k) m
def wNotInn : R2m := fun x y m Q => ∃ k, InB m x y k ∧ Q (.bl (!k)) m
theorem mo_in {k : Nat} (hr : Room k X.A) : MOp X (compareOp .In) wInn := mop_of (OpR.or op_in_seq (OpR.or op_in_sign (OpR.or (op_inDk (hu1 hr)) (op_inD (hu65 hr))))) fun x y v w H m Q Qm hx hy r q k => by
  obtain ⟨b, h, q⟩ := q
  have fin := k _ _ _ _ q r Step.refl Rep.bl
  rcases h with ⟨ds, sd, fx, fa, e⟩ | ⟨c, z, rfl, rfl, e⟩ | ⟨a, o, ro, rfl, e1, g, e⟩ | ⟨t, ts, h1, h2, s1, s2, e⟩
  · obtain ⟨p, xs, e1, s, rr⟩ := seqD_go r sd hy
    obtain ⟨i1, i2⟩ := inV_go fx hx fa rr
    exact .inl ⟨p, xs, e1, s, flD_flat fx hx, i1, by rw [i2, ← e]; exact fin⟩
  · exact .inr (.inl ⟨c, z, Rep.str_iff.mp hx, Rep.str_iff.mp hy, by rw [← e]; exact fin⟩)
  · obtain ⟨r', g', h1, h2⟩ := get_go r e1 g hx
    have e2 : r'.isSome = ro.isSome := by
      cases ro with
      | none => rw [h2 rfl]; rfl
      | some d => obtain ⟨w', e2, _⟩ := h1 d rfl; rw [e2]; rfl
    exact .inr (.inr (.inl ⟨a, r', Rep.ref_iff.mp hy, g', by rw [e2, ← e]; exact fin⟩))
  · exact .inr (.inr (.inr ⟨t, ts, h1.dp r _ _ _ hx, h2.dp r _ _ _ hy, s1, s2, by rw [← e]; exact fin⟩))
theorem mo_notin {k : Nat} (hr : Room k X.A) : MOp X (compareOp .NotIn) wNotInn := mop_of (OpR.or op_notIn_seq (OpR.or op_notIn_sign (OpR.or (op_notinDk (hu1 hr)) (op_notInD (hu65 hr))))) fun x y v w H m Q Qm hx hy r q k => by
  obtain ⟨b, h, q⟩ := q
  have fin := k _ _ _ _ q r Step.refl Rep.bl
  rcases h with ⟨ds, sd, fx, fa, e⟩ | ⟨c, z, rfl, rfl, e⟩ | ⟨a, o, ro, rfl, e1, g, e⟩ | ⟨t, ts, h1, h2, s1, s2, e⟩
  · obtain ⟨p, xs, e1, s, rr⟩ := seqD_go r sd hy
    obtain ⟨i1, i2⟩ := inV_go fx hx fa rr
    exact .inl ⟨p, xs, e1, s, flD_flat fx hx, i1, by rw [if_pos rfl, i2, ← e]; exact fin⟩
  · exact .inr (.inl ⟨c, z, Rep.str_iff.mp hx, Rep.str_iff.mp hy, by rw [← e]; exact fin⟩)
  · obtain ⟨r', g', h1, h2⟩ := get_go r e1 g hx
    have e2 : r'.isSome = ro.isSome := by
      cases ro with
      | none => rw [h2 rfl]; rfl
      | some d => obtain ⟨w', e2, _⟩ := h1 d rfl; rw [e2]; rfl
    exact .inr (.inr (.inl ⟨a, r', Rep.ref_iff.mp hy, g', by rw [if_pos rfl, e2, ← e]; exact fin⟩))
  · exact .inr (.inr (.inr ⟨t, ts, h1.dp r _ _ _ hx, h2.dp r _ _ _ hy, s1, s2, by rw [← e]; exact fin⟩))
end
section
variable {m : Mem} {Q : KM} {x y : D}
theorem i_in {k : Bool} (e : InB m x y k) (h : Q (.bl k) m) : wInn x y m Q := ⟨k, e, h⟩
theorem i_notin {k : Bool} (e : InB m x y k) (h : Q (.bl (!k)) m) : wNotInn x y m Q := ⟨k, e, h⟩
theorem in_tup {ds : List D} (h1 : flD x = true) (h2 : ds.all flD = true) : InB m x (.tup ds) (ds.any fun z => eqF z x) := .inl ⟨ds, .inl rfl, h1, h2, rfl⟩
theorem in_lst {a : Addr} {ds : List D} (e : rdM m a = some (.lst ds)) (h1 : flD x = true) (h2 : ds.all flD = true) : InB m x (.ref a) (ds.any fun z => eqF z x) := .inl ⟨ds, .inr ⟨a, rfl, e⟩, h1, h2, rfl⟩
theorem in_sign {c : Nat} {z : Str} : InB m (.str ⟨#[c]⟩) (.str z) (decide (c ∈ z.cps.toList)) := .inr (.inl ⟨c, z, rfl, rfl, rfl⟩)
theorem in_dK {a : Addr} {kvs : List (Key × D)} {k : Key} (e : rdM m a = some (.dK kvs)) : InB m (kD k) (.ref a) (valD kvs k).isSome := .inr (.inr (.inl ⟨a, _, _, rfl, e, ⟨k, rfl, rfl⟩, rfl⟩))
end
end Mm
namespace Mm
open PySem L2
open PyProof.Rows (envOfC)
section
variable {m : Mem} {a : Addr}
theorem rd_K {kvs : List (Key × D)} (h : m a = some (.dK kvs)) : rdM m a = some (.dK kvs) := rd_of h trivial
theorem rd_T {kvs : List (List Key × D)} (h : m a = some (.dT kvs)) : rdM m a = some (.dT kvs) := rd_of h trivial
theorem rd_L {ds : List D} (h : m a = some (.lst ds)) : rdM m a = some (.lst ds) := rd_of h trivial
theorem rd_I {C : Addr} {fs : List (Str × D)} (h : m a = some (.ins C fs)) : rdM m a = some (.ins C fs) := rd_of h trivial
end
section
variable {E : EndsM} {ρ : StM} {m : Mem} {Q : KM} {chk : Mem → Prop} {g : TGm} {tb : TSm} {ds : List D} {tt : TTm} {te : TEm} {vs : List Nat}
theorem i_for {ti : TIm} (h : ti ρ m fun ds chk m1 => forC chk g tb E ds ρ m1) : wFor ti g tb E ρ m := h
theorem i_lc {ti : TIm} (h : ti ρ m fun ds chk m1 => lcC chk g tt te vs ρ (fun acc m' => newO (.lst acc) m' Q) ds [] m1) : wLc ti g tt te vs ρ m Q := h
/-- a loop, by what holds ahead of the items that are left -/
theorem forC_ind (P : List D → StM → Mem → Prop) (h0 : P ds ρ m) (hn : ∀ ρ m, P [] ρ m → chk m ∧ E.nx ρ m)
    (hc : ∀ d r ρ m (K : StM → Mem → Prop), (∀ ρ m, P r ρ m → K ρ m) → P (d :: r) ρ m → chk m ∧ g d ρ m fun ρ2 m2 => tb { E with nx := K, ct := K, bk := E.nx } ρ2 m2) : forC chk g tb E ds ρ m := by
  induction ds generalizing ρ m with
  | nil => exact hn ρ m h0
  | cons d r ih => exact hc d r ρ m _ (fun ρ m h => ih h) h0
/-- a comprehension, likewise -/
theorem lcC_ind {QA : List D → Mem → Prop} {acc : List D} (P : List D → List D → Mem → Prop) (h0 : P ds acc m) (hn : ∀ acc m, P [] acc m → chk m ∧ QA acc m)
    (hc : ∀ d r acc m (K : List D → Mem → Prop), (∀ acc m, P r acc m → K acc m) → P (d :: r) acc m → chk m ∧ g d (wipeM ρ vs) m fun ρ2 m2 => wipeM ρ2 vs = wipeM ρ vs ∧ tt ρ2 m2 fun b m3 => if b = true then te ρ2 m3 fun y m4 => acc.length < sizeLine ∧ K (acc ++ [y]) m4 else K acc m3) :
    lcC chk g tt te vs ρ QA ds acc m := by
  induction ds generalizing acc m with
  | nil => exact hn acc m h0
  | cons d r ih => exact hc d r acc m _ (fun acc m h => ih h) h0
/-- a comprehension whose element is reckoned and changes nothing -/
theorem lcC_pure {QA : List D → Mem → Prop} (f : D → D) (hl : ds.length ≤ sizeLine) (hk : chk m) (hb : ∀ d ∈ ds, ∀ R : KM, R (f d) m → g d (wipeM ρ vs) m fun ρ2 m2 => wipeM ρ2 vs = wipeM ρ vs ∧ te ρ2 m2 R) (q : QA (ds.map f) m) :
    lcC chk g wYes te vs ρ QA ds [] m := by
  refine lcC_ind (fun r acc m' => m' = m ∧ ∃ p, ds = p ++ r ∧ acc = p.map f) ⟨rfl, [], by simp, rfl⟩ ?_ ?_
  · rintro acc m' ⟨rfl, p, e, rfl⟩
    rw [List.append_nil] at e
    subst e
    exact ⟨hk, q⟩
  · rintro d r acc m' K hK ⟨rfl, p, e, rfl⟩
    refine ⟨hk, ?_⟩
    have hd : d ∈ ds := by rw [e]; simp
    have := hb d hd (fun y m4 => (p.map f).length < sizeLine ∧ K (p.map f ++ [y]) m4) ⟨by
      have : ds.length = p.length + (r.length + 1) := by rw [e]; simp
      rw [List.length_map]; omega, hK _ _ ⟨rfl, p ++ [d], by rw [e]; simp, by simp⟩⟩
    exact this
/-- .. with a test -/
theorem lcC_pureIf {QA : List D → Mem → Prop} (f : D → D) (c : D → Bool) (hl : ds.length ≤ sizeLine) (hk : chk m)
    (hb : ∀ d ∈ ds, ∀ R : Bool → Mem → KM → Prop, (R (c d) m fun y m2 => y = f d ∧ m2 = m) → True) (q : QA ((ds.filter c).map f) m)
    (ht : ∀ d ∈ ds, ∀ (R : List D → Mem → Prop) (acc : List D), acc.length < sizeLine → (if c d = true then R (acc ++ [f d]) m else R acc m) → g d (wipeM ρ vs) m fun ρ2 m2 => wipeM ρ2 vs = wipeM ρ vs ∧ tt ρ2 m2 fun b m3 => if b = true then te ρ2 m3 fun y m4 => acc.length < sizeLine ∧ R (acc ++ [y]) m4 else R acc m3) :
    lcC chk g tt te vs ρ QA ds [] m := by
  refine lcC_ind (fun r acc m' => m' = m ∧ ∃ p, ds = p ++ r ∧ acc = (p.filter c).map f) ⟨rfl, [], by simp, rfl⟩ ?_ ?_
  · rintro acc m' ⟨rfl, p, e, rfl⟩
    rw [List.append_nil] at e
    subst e
    exact ⟨hk, q⟩
  · rintro d r acc m' K hK ⟨rfl, p, e, rfl⟩
    refine ⟨hk, ?_⟩
    have hd : d ∈ ds := by rw [e]; simp
    have hlen : ((p.filter c).map f).length < sizeLine := by
      have h1 : ds.length = p.length + (r.length + 1) := by rw [e]; simp
      have h2 := List.length_filter_le c p
      rw [List.length_map]; omega
    refine ht d hd K _ hlen ?_
    cases hcd : c d with
    | true => rw [if_pos rfl]; exact hK _ _ ⟨rfl, p ++ [d], by rw [e]; simp, by simp [hcd]⟩
    | false => rw [if_neg Bool.false_ne_true]; exact hK _ _ ⟨rfl, p ++ [d], by rw [e]; simp, by simp [hcd]⟩
theorem i_iL {a : Addr} {R : List D → (Mem → Prop) → Mem → Prop} (e : rdM m a = some (.lst ds)) (h : R ds (fun m' => rdM m' a = some (.lst ds)) m) : ∃ ds, rdM m a = some (.lst ds) ∧ R ds (fun m' => rdM m' a = some (.lst ds)) m := ⟨ds, e, h⟩
/-- over a new list, forgotten while it is walked -/
theorem i_iH {a : Addr} {m0 : Mem} {R : List D → (Mem → Prop) → Mem → Prop} (hm : m = mput m0 a (.lst ds)) (hn : m0 a = none) (h : R ds (fun _ => True) m0) : ∃ ds m0, rdM m a = some (.lst ds) ∧ Sub m0 m ∧ Nm m0 a ∧ R ds (fun _ => True) m0 := by
  subst hm
  exact ⟨ds, m0, rd_of mput_same trivial, fun b o e => mput_new hn e, .inl hn, h⟩
end
end Mm
namespace Mm
open PySem L2
open PyProof.Rows (envOfC)
theorem mput_off {m : Mem} {a b : Addr} {o o' : O} (h : a ≠ b) (e : m a = some o) : mput m b o' a = some o := (mput_ne h).trans e
theorem mput_off' {m : Mem} {a b : Addr} {o o' : O} (h : b ≠ a) (e : m a = some o) : mput m b o' a = some o := (mput_ne h.symm).trans e
def keyP (p : D × D) : Key × D := (match p.1 with | .str s => .inr s | .int i => .inl i | _ => .inl 0, p.2)
theorem i_disp {ps : List (TEm × TEm)} {ρ : StM} {m : Mem} {Q : KM} (h : wPairs ps ρ m fun prs m' => ∃ kvs : List (Key × D), prs = kvs.map (fun kv => (kD kv.1, kv.2)) ∧ kvs.length ≤ 15 ∧ newO (.dK (mergeD [] kvs)) m' Q) : wDisp ps ρ m Q := h
theorem i_pN {ρ : StM} {m : Mem} {Q : List (D × D) → Mem → Prop} (h : Q [] m) : wPairs [] ρ m Q := h
theorem i_pC {tk tv : TEm} {r : List (TEm × TEm)} {ρ : StM} {m : Mem} {Q : List (D × D) → Mem → Prop} (h : tk ρ m fun x m1 => tv ρ m1 fun y m2 => wPairs r ρ m2 fun ps m3 => Q ((x, y) :: ps) m3) : wPairs ((tk, tv) :: r) ρ m Q := h
theorem i_dispE {prs : List (D × D)} {m : Mem} {Q : KM} (e : prs = (prs.map keyP).map fun kv => (kD kv.1, kv.2)) (z : prs.length ≤ 15) (h : newO (.dK (mergeD [] (prs.map keyP))) m Q) : ∃ kvs : List (Key × D), prs = kvs.map (fun kv => (kD kv.1, kv.2)) ∧ kvs.length ≤ 15 ∧ newO (.dK (mergeD [] kvs)) m Q := ⟨_, e, by rw [List.length_map]; exact z, h⟩
theorem ty_L {m : Mem} {a : Addr} {ds : List D} (e : rdM m a = some (.lst ds)) : tyD m (.ref a) = some "list" := by
  unfold rdM at e
  show (match m a with | some (.lst _) => some "list" | some (.dK _) => some "dict" | some (.dT _) => some "dict" | some (.frz (.lst _)) => some "list" | _ => none) = _
  cases q : m a with
  | none => rw [q] at e; cases e
  | some o =>
    rw [q] at e
    cases o with
    | frz o => cases e; rfl
    | _ => cases e <;> rfl
theorem ty_K {m : Mem} {a : Addr} {kvs : List (Key × D)} (e : m a = some (.dK kvs)) : tyD m (.ref a) = some "dict" := by
  show (match m a with | some (.lst _) => some "list" | some (.dK _) => some "dict" | some (.dT _) => some "dict" | some (.frz (.lst _)) => some "list" | _ => none) = _
  rw [e]
theorem i_powL {i j : Int} {m : Mem} {Q : KM} {g : Int → Int → D} (c : 0 ≤ j ∧ j ≤ 1000000 ∧ i.natAbs < 18446744073709551616) (h : Q (g i j) m) : wI CPow g (.int i) (.int j) m Q := ⟨c, h⟩
theorem i_timesLL {i j : Int} {m : Mem} {Q : KM} (c : (-18446744073709551616 < i ∧ i < 18446744073709551616) ∨ (-18446744073709551616 < j ∧ j < 18446744073709551616)) (h : Q (.int (i * j)) m) : wTimes (.int i) (.int j) m Q := ⟨.inl c, h⟩
theorem i_divW {i j : Int} {m : Mem} {Q : KM} {g : Int → Int → D} (c : 0 < j) (c2 : j < 9223372036854775808) (h : Q (g i j) m) : wI CDivW g (.int i) (.int j) m Q := ⟨⟨c, by
  have := PySem.Flt.log2_lt_of (n := j.natAbs) (k := 63) (by decide) (by omega)
  omega⟩, h⟩
theorem i_mod {i j : Int} {m : Mem} {Q : KM} {g : Int → Int → D} (c : 0 < j) (h : Q (g i j) m) : wI (fun _ j => 0 < j) g (.int i) (.int j) m Q := ⟨c, h⟩
/-! ### where the law begins: the script, as it stands -/
theorem law_start {K : PySem.W.Frag} {H : Hp} {a : Addr} {ns : List Int} (h : SqL K H a (ns.map V.int)) : ∃ m, RM K H m ∧ LsK K m a ns := by
  rcases h with (h | ⟨o, h⟩) | h
  · refine ⟨fun b => if b = a then some (.lst (ns.map .int)) else none, fun b o e => ?_, .inl ?_⟩
    · by_cases c : b = a
      · subst c
        dsimp only at e
        rw [if_pos rfl] at e; cases e
        exact ⟨_, h, _, rfl, Reps.ints ns⟩
      · dsimp only at e
        rw [if_neg c] at e; cases e
    · exact rd_L (if_pos rfl)
  · refine ⟨fun b => if b = a then some (.frz (.lst (ns.map .int))) else none, fun b o e => ?_, .inl ?_⟩
    · by_cases c : b = a
      · subst c
        dsimp only at e
        rw [if_pos rfl] at e; cases e
        exact ⟨_, h, _, _, rfl, _, rfl, Reps.ints ns⟩
      · dsimp only at e
        rw [if_neg c] at e; cases e
    · exact rd_frz (if_pos rfl)
  · refine ⟨fun _ => none, fun b o e => ?_, Or.inr h⟩
    cases e
/-- what law(script) promises -/
def spLaw (K : PySem.W.Frag) : SpM := fun ds m Q _ => ∃ (c : Addr) (ns : List Int), ds = [.ref c] ∧ LsK K m c ns ∧ ns.length ≤ 63 ∧ ∀ m', Q (.bl true) m'
theorem spLaw_start {K : PySem.W.Frag} {H : Hp} {a : Addr} {ns : List Int} (hl : ns.length ≤ 63) (h : SqL K H a (ns.map V.int)) : liftSp K (spLaw K) [.ref a] H (fun v _ => v = .bl true) fun _ _ _ => False := by
  obtain ⟨m, r, l⟩ := law_start h
  refine ⟨[.ref a], m, fun d _ => d = .bl true, fun _ _ => False, Reps.cons Rep.ref Reps.nil, r, ⟨a, ns, rfl, l, hl, fun _ => rfl⟩, fun d m' v H' e _ _ x => ?_, fun _ _ _ z => z.elim⟩
  subst e
  exact Rep.bl_iff.mp x
end Mm
namespace Mm
open PySem L2
open PyProof.Rows (envOfC)
section
variable {X : Cx} {B : Bs} {e o : Expr} {pos apos : Pos} {pa pb : TEm}
theorem atI_cons {α : Type} {xs : List α} {i : Nat} {x : α} (h : xs[i]? = some x) : atI xs (i : Int) = some x := atI_nat h
theorem i_sub0 {m : Mem} {Q : KM} {d : D} {ds : List D} (h : Q d m) : wSub (.tup (d :: ds)) (.int 0) m Q := ⟨d, atI_cons (i := 0) rfl, h⟩
theorem i_sub1 {m : Mem} {Q : KM} {x d : D} {ds : List D} (h : Q d m) : wSub (.tup (x :: d :: ds)) (.int 1) m Q := ⟨d, atI_cons (i := 1) rfl, h⟩
theorem i_sub2 {m : Mem} {Q : KM} {x y d : D} {ds : List D} (h : Q d m) : wSub (.tup (x :: y :: d :: ds)) (.int 2) m Q := ⟨d, atI_cons (i := 2) rfl, h⟩
/-! ### str, join -/
def wStr1 : RLm := fun ds m Q => match ds with
  | [.int i] => i.natAbs.log2 < 1920 ∧ Q (.str (Str.ofString (toString i))) m
  | [.str x] => Q (.str x) m
  | _ => False
theorem mc_str1 : MCall X (.type "str") wStr1 := mcall_of (CallR.or call_str_int SkE.call_str_str) fun ds vs H m Q Qm hx r q k => by
  unfold wStr1 at q; split at q
  · obtain ⟨v, e, x⟩ := reps1 hx
    rw [Rep.int_iff.mp x] at e
    exact .inl ⟨_, e, q.1, k _ _ _ _ q.2 r Step.refl Rep.str⟩
  · obtain ⟨v, e, x⟩ := reps1 hx
    rw [Rep.str_iff.mp x] at e
    exact .inr ⟨_, e, k _ _ _ _ q r Step.refl Rep.str⟩
  · exact q.elim
def strAt (d : D) (k : Str → Prop) : Prop := match d with
  | .str a => k a
  | _ => False
theorem i_strAt {a : Str} {k : Str → Prop} (h : k a) : strAt (.str a) k := h
theorem Reps.strs {K : PySem.W.Frag} {H : Hp} : ∀ {ys : List Str} {vs : List V}, Reps K H (ys.map .str) vs → vs = ys.map V.str
  | [], _, h => Reps.nil_iff.mp h
  | y :: ys, _, h => by
    obtain ⟨v, w, rfl, a, b⟩ := Reps.cons_iff.mp h
    rw [Rep.str_iff.mp a, Reps.strs b]; rfl
def wJoinV (a : Str) (y : D) (m : Mem) (Q : KM) : Prop := refAt y fun p => ∃ ys : List Str, rdM m p = some (.lst (ys.map .str)) ∧ (ys.map (·.length)).sum + ys.length * a.length ≤ 16777216 ∧ Q (.str (Txt.join a ys)) m
def wJoin (pa pb : TEm) : TEm := fun ρ m Q => pa ρ m fun x m1 => strAt x fun a => pb ρ m1 fun y m2 => wJoinV a y m2 Q
theorem mx_join (ho : MX X B o pa) (he : MX X B e pb) (hs : starEach [e] X.env = [(false, eval e X.env)] := by rfl) (hbase : attributeBase o "join" X.env (eval o X.env) = eval o X.env := by rfl) (hline : (apos.endLine == pos.line) = true := by rfl) :
    MX X B (.Call (.Attribute o "join" apos) [e] [] pos) (wJoin pa pb) := peImp (pe_join ho he hs hbase hline) fun σ H Q ⟨ρ, m, Qm, A, q, k⟩ => by
  refine ⟨ρ, m, _, A, q, fun x m1 v H1 q1 r1 t1 x1 => ?_⟩
  unfold strAt at q1
  split at q1
  · refine ⟨⟨_, Rep.str_iff.mp x1⟩, ρ, m1, _, A.step r1 t1, q1, fun y m2 w H2 q2 r2 t2 x2 => ?_⟩
    unfold wJoinV refAt at q2
    split at q2
    · obtain ⟨ys, e1, z, q2⟩ := q2
      obtain ⟨xs, s, rr⟩ := rd_lst r2 e1
      rw [Reps.strs rr] at s
      exact ⟨_, _, ys, Rep.str_iff.mp x1, by rw [Rep.ref_iff.mp x2], .inl s, z, k _ _ _ _ q2 r2 (t1.trans t2) Rep.str⟩
    · exact q2.elim
  · exact q1.elim
end
end Mm
namespace Mm
open PySem L2
open PyProof.Rows (envOfC)

/-! ### the order of flat tuples -/
def kLt : Key → Key → Bool
  | .inl i, .inl j => decide (i < j)
  | .inr x, .inr y => decide (x.cps.toList < y.cps.toList)
  | .inl _, .inr _ => true
  | .inr _, .inl _ => false
def lexK : List Key → List Key → Bool
  | [], [] => false
  | [], _ :: _ => true
  | _ :: _, [] => false
  | a :: r, b :: s => if a = b then lexK r s else kLt a b
theorem str_ext {x y : Str} (h : x.cps.toList = y.cps.toList) : x = y := by
  cases x; cases y
  simp only [Str.mk.injEq]
  exact Array.toList_inj.mp h
theorem lt_irr (l : List Nat) : ¬ l < l := List.lt_irrefl l
theorem lt_as {l k : List Nat} (h : l < k) : ¬ k < l := List.lt_asymm h
theorem lt_tr {a b c : List Nat} (h : a < b) (h2 : b < c) : a < c := List.lt_trans h h2
theorem lt_tri {l k : List Nat} (h : ¬ l < k) (h2 : ¬ k < l) : l = k := List.le_antisymm h2 h
theorem kLt_irr (a : Key) : kLt a a = false := by
  cases a with
  | inl i => exact decide_eq_false (by omega)
  | inr x => exact decide_eq_false (lt_irr _)
theorem kLt_as : ∀ {a b : Key}, kLt a b = true → kLt b a = false
  | .inl _, .inl _, h => decide_eq_false (by have := of_decide_eq_true h; omega)
  | .inr _, .inr _, h => decide_eq_false (lt_as (of_decide_eq_true h))
  | .inl _, .inr _, _ => rfl
  | .inr _, .inl _, h => Bool.noConfusion h
theorem kLt_tr : ∀ {a b c : Key}, kLt a b = true → kLt b c = true → kLt a c = true
  | .inl _, .inl _, .inl _, h, h2 => decide_eq_true (by have := of_decide_eq_true h; have := of_decide_eq_true h2; omega)
  | .inr _, .inr _, .inr _, h, h2 => decide_eq_true (lt_tr (of_decide_eq_true h) (of_decide_eq_true h2))
  | .inl _, _, .inr _, _, _ => rfl
  | .inr _, .inl _, _, h, _ => Bool.noConfusion h
  | _, .inr _, .inl _, _, h2 => Bool.noConfusion h2
theorem kLt_tri : ∀ {a b : Key}, kLt a b = false → kLt b a = false → a = b
  | .inl _, .inl _, h, h2 => congrArg Sum.inl (by have := of_decide_eq_false h; have := of_decide_eq_false h2; omega)
  | .inr _, .inr _, h, h2 => congrArg Sum.inr (str_ext (lt_tri (of_decide_eq_false h) (of_decide_eq_false h2)))
  | .inl _, .inr _, h, _ => Bool.noConfusion h
  | .inr _, .inl _, _, h => Bool.noConfusion h
theorem lexK_irr : ∀ a : List Key, lexK a a = false
  | [] => rfl
  | a :: r => by simp only [lexK, if_true]; exact lexK_irr r
theorem lexK_as : ∀ {a b : List Key}, lexK a b = true → lexK b a = false
  | [], [], h => by cases h
  | [], _ :: _, _ => rfl
  | _ :: _, [], h => by cases h
  | a :: r, b :: s, h => by
    simp only [lexK] at h ⊢
    by_cases c : a = b
    · subst c
      simp only [if_true] at h ⊢
      exact lexK_as h
    · rw [if_neg c] at h
      rw [if_neg (fun z => c z.symm)]
      exact kLt_as h
theorem lexK_tri : ∀ {a b : List Key}, lexK a b = false → lexK b a = false → a = b
  | [], [], _, _ => rfl
  | [], _ :: _, h, _ => by cases h
  | _ :: _, [], _, h => by cases h
  | a :: r, b :: s, h, h2 => by
    simp only [lexK] at h h2
    by_cases c : a = b
    · subst c
      simp only [if_true] at h h2
      rw [lexK_tri h h2]
    · rw [if_neg c] at h
      rw [if_neg (fun z => c z.symm)] at h2
      exact absurd (kLt_tri h h2) c
theorem lexK_tr : ∀ {a b c : List Key}, lexK a b = true → lexK b c = true → lexK a c = true
  | [], [], _, h, _ => by cases h
  | [], _ :: _, [], _, h => by cases h
  | [], _ :: _, _ :: _, _, _ => rfl
  | _ :: _, [], _, h, _ => by cases h
  | _ :: _, _ :: _, [], _, h => by cases h
  | a :: r, b :: s, c :: t, h, h2 => by
    simp only [lexK] at h h2 ⊢
    by_cases e1 : a = b
    · subst e1
      simp only [if_true] at h
      by_cases e2 : a = c
      · subst e2
        simp only [if_true] at h2 ⊢
        exact lexK_tr h h2
      · rw [if_neg e2] at h2 ⊢; exact h2
    · rw [if_neg e1] at h
      by_cases e2 : b = c
      · subst e2
        rw [if_neg e1]; exact h
      · rw [if_neg e2] at h2
        have h3 := kLt_tr h h2
        have : a ≠ c := by
          rintro rfl
          rw [kLt_irr] at h3; cases h3
        rw [if_neg this]; exact h3
/-- sorted -/
def SrtK (l : List (List Key)) : Prop := l.Pairwise fun x y => lexK y x = false
theorem srtK_uniq : ∀ {l m : List (List Key)}, SrtK l → SrtK m → l.Perm m → l = m
  | [], m, _, _, p => (List.Perm.eq_nil p.symm).symm
  | x :: l, [], _, _, p => absurd p.length_eq (by simp)
  | x :: l, y :: m, hl, hm, p => by
    have hl' := List.pairwise_cons.mp hl
    have hm' := List.pairwise_cons.mp hm
    have h1 : lexK y x = false := by
      rcases List.mem_cons.mp (p.mem_iff.mpr (List.mem_cons_self (a := y) (l := m))) with e | h
      · rw [e]; exact lexK_irr x
      · exact hl'.1 y h
    have h2 : lexK x y = false := by
      rcases List.mem_cons.mp (p.mem_iff.mp (List.mem_cons_self (a := x) (l := l))) with e | h
      · rw [e]; exact lexK_irr y
      · exact hm'.1 x h
    have e := lexK_tri h2 h1
    subst e
    rw [srtK_uniq hl'.2 hm'.2 p.cons_inv]
theorem lexK_neg {x y z : List Key} (h1 : lexK y x = false) (h2 : lexK z y = false) : lexK z x = false := by
  cases h : lexK z x with
  | false => rfl
  | true =>
    cases h3 : lexK x y with
    | true => rw [lexK_tr h h3] at h2; cases h2
    | false =>
      have := lexK_tri h3 h1
      subst this
      rw [h2] at h; cases h
/-- of one kind, place by place -/
def sameSh : List Key → List Key → Prop
  | [], [] => True
  | .inl _ :: r, .inl _ :: s => sameSh r s
  | .inr _ :: r, .inr _ :: s => sameSh r s
  | _, _ => False
theorem sameSh_len : ∀ {a b : List Key}, sameSh a b → a.length = b.length
  | [], [], _ => rfl
  | .inl _ :: r, .inl _ :: s, h => congrArg (· + 1) (sameSh_len (a := r) (b := s) h)
  | .inr _ :: r, .inr _ :: s, h => congrArg (· + 1) (sameSh_len (a := r) (b := s) h)
  | [], _ :: _, h => by cases h
  | _ :: _, [], h => by simp only [sameSh] at h
  | .inl _ :: _, .inr _ :: _, h => by simp only [sameSh] at h
  | .inr _ :: _, .inl _ :: _, h => by simp only [sameSh] at h
section
variable {prog : Program} {w : World} {A : Around} {E : Value → Shared → Prop} {s : Shared} {Q : Bool → Shared → Prop}
theorem oneLt_strs (c : Bool) {p q : Str} {t u : Tok} (h : Q (decide (p.cps.toList < q.cps.toList)) s) : wpAny (model prog w) A (PyProof.Rows.oneLt' c (.str p t) (.str q u)) Q E s := by
  cases c with
  | true => exact PyProof.Rows.oneLt_str h
  | false => exact PySem.W.kat_one _ _ (PyProof.Rows.lt_str (Q := PySem.W.BoolBack Q) h)
theorem katlex_cols (b : Bool) : ∀ {ks ls : List Key} {us ws : List Value} (i : Nat), Vals (ks.map kV) us → Vals (ls.map kV) ws → sameSh ks ls → Q (lexK ks ls) s → PySem.W.KatLex prog w A b false Q (us.zip ws) i s
  | [], [], _, _, i, ru, rw, _, h => by
    cases ru; cases rw
    exact PySem.W.kat_nil h
  | .inl x :: ks, .inl y :: ls, _, _, i, ru, rw, sh, h => by
    cases ru with
    | cons r1 ru =>
    cases rw with
    | cons r2 rw =>
    obtain ⟨t1, rfl⟩ := r1
    obtain ⟨t2, rfl⟩ := r2
    refine PySem.W.kat_cons (SeqAt.EqAt.int_int x t1 y t2 prog w _ _ ?_)
    refine PySem.W.kat_go (fun e1 => ?_) (fun e1 => ?_)
    · have ex : x = y := by simpa using e1
      subst ex
      refine PySem.W.kat_yes (katlex_cols b (i + 1) ru rw sh ?_)
      simpa only [lexK, if_true] using h
    · have ex : ¬ x = y := by simpa using e1
      refine PySem.W.kat_no (TS.oneLt_ints _ ?_)
      have : ¬ (Sum.inl x : Key) = .inl y := fun z => ex (Sum.inl.inj z)
      simpa only [lexK, if_neg this, kLt] using h
  | .inr x :: ks, .inr y :: ls, _, _, i, ru, rw, sh, h => by
    cases ru with
    | cons r1 ru =>
    cases rw with
    | cons r2 rw =>
    obtain ⟨t1, rfl⟩ := r1
    obtain ⟨t2, rfl⟩ := r2
    refine PySem.W.kat_cons (SeqAt.EqAt.str_str x t1 y t2 prog w _ _ ?_)
    refine PySem.W.kat_go (fun e1 => ?_) (fun e1 => ?_)
    · have ex : x = y := by simpa using e1
      subst ex
      refine PySem.W.kat_yes (katlex_cols b (i + 1) ru rw sh ?_)
      simpa only [lexK, if_true] using h
    · have ex : ¬ x = y := by simpa using e1
      refine PySem.W.kat_no (oneLt_strs _ ?_)
      have : ¬ (Sum.inr x : Key) = .inr y := fun z => ex (Sum.inr.inj z)
      simpa only [lexK, if_neg this, kLt] using h
  | .inl _ :: _, .inr _ :: _, _, _, _, _, _, sh, _ => by simp only [sameSh] at sh
  | .inr _ :: _, .inl _ :: _, _, _, _, _, _, sh, _ => by simp only [sameSh] at sh
  | [], _ :: _, _, _, _, _, _, sh, _ => by simp only [sameSh] at sh
  | _ :: _, [], _, _, _, _, _, sh, _ => by simp only [sameSh] at sh
/-- a tuple of a heap, flat -/
def IsFt (h : Heap) (v : Value) (ks : List Key) : Prop := ∃ a o n its, v = .ref a ∧ h.get? a = some o ∧ o.cls = .type "tuple" ∧ o.data = .seq its n ∧ Vals (ks.map kV) its.toList
theorem IsFt.keeps {h h' : Heap} {v : Value} {ks : List Key} (p : IsFt h v ks) (k : ∀ b o, h.get? b = some o → o.cls = .type "tuple" → h'.get? b = some o) : IsFt h' v ks := by
  obtain ⟨a, o, n, its, e, ho, hc, hd, r⟩ := p
  exact ⟨a, o, n, its, e, k _ _ ho hc, hc, hd, r⟩
theorem ft_cmp {b : Bool} {vs : List Value} {k : Value → List Key} (hp : ∀ v ∈ vs, IsFt s.heap v (k v)) (sh : ∀ v ∈ vs, ∀ u ∈ vs, sameSh (k v) (k u)) : SrtO.Cmp prog w A s (PyProof.Rows.tuples' b) (fun p => p.1 ∈ vs) (SrtO.lt2 fun v u => lexK (k v) (k u)) := by
  intro p q hm hm'
  have h1 := hp _ hm
  have h2 := hp _ hm'
  have hs := sh _ hm _ hm'
  show wpAny (model prog w) A (PyProof.Rows.keyLt' (PyProof.Rows.tuples' b) p.1 q.1) (fun r s' => s' = s ∧ r = lexK (k p.1) (k q.1)) (fun _ _ => False) s
  generalize k p.1 = ks at h1 hs ⊢
  generalize k q.1 = ls at h2 hs ⊢
  obtain ⟨a, o, n, its, e, ho, hc, hd, r1⟩ := h1
  obtain ⟨a', o', n', its', e', ho', hc', hd', r2⟩ := h2
  rw [e, e']
  refine PySem.W.kat_lt ho hd ho' hd' ?_
  have hz : decide (its.size < its'.size) = false := by
    have l1 := r1.length
    have l2 := r2.length
    have l3 := sameSh_len hs
    rw [List.length_map] at l1 l2
    have e1 : its.size = its.toList.length := by simp
    have e2 : its'.size = its'.toList.length := by simp
    exact decide_eq_false (by omega)
  rw [hz]
  exact katlex_cols _ 0 r1 r2 hs ⟨rfl, rfl⟩
theorem ft_firsts {h : Heap} : ∀ {vs : List Value} {ks : Value → List Key} {T : Bool}, (∀ v ∈ vs, IsFt h v (ks v)) → (∀ v ∈ vs, ∃ a r, ks v = a :: r ∧ (match a with | .inl _ => true | .inr _ => false) = T) →
    ∃ fs : List Value, PySem.W.KatTups h vs fs ∧ fs.length = vs.length ∧ ∀ f ∈ fs, if T = true then ∃ x t, f = Value.int x t else ∃ x t, f = Value.str x t
  | [], _, _, _, _ => ⟨[], PySem.W.KatTups.nil, rfl, fun _ hm => by simp at hm⟩
  | v :: vs, ks, T, hp, hT => by
    obtain ⟨fs, h1, h2, h3⟩ := ft_firsts (vs := vs) (ks := ks) (T := T) (fun v' hm => hp v' (List.mem_cons_of_mem _ hm)) fun v' hm => hT v' (List.mem_cons_of_mem _ hm)
    obtain ⟨a, o, n, its, e, ho, hc, hd, r⟩ := hp v (List.mem_cons_self ..)
    obtain ⟨c, cs, ec, eT⟩ := hT v (List.mem_cons_self ..)
    rw [ec, List.map_cons] at r
    subst e
    obtain ⟨u, us, ei, ru, rus⟩ : ∃ u us, its.toList = u :: us ∧ RelV (kV c) u ∧ Vals (cs.map kV) us := by
      generalize its.toList = l at r
      cases r with
      | cons a b => exact ⟨_, _, rfl, a, b⟩
    have e0 : its[0]? = some u := by
      rw [← Array.getElem?_toList, ei]; rfl
    refine ⟨u :: fs, PySem.W.KatTups.cons ho hc hd e0 h1, by rw [List.length_cons, List.length_cons, h2], fun f hm => ?_⟩
    rcases List.mem_cons.mp hm with rfl | hm
    · cases c with
      | inl x =>
        subst eT
        obtain ⟨t, rfl⟩ := ru
        exact ⟨x, t, rfl⟩
      | inr x =>
        subst eT
        obtain ⟨t, rfl⟩ := ru
        exact ⟨x, t, rfl⟩
    · exact h3 f hm
theorem ft_sortableO {a : Addr} {vs : List Value} {k : Value → List Key} {T : Bool} (h0 : 0 < vs.length) (hp : ∀ v ∈ vs, IsFt s.heap v (k v)) (sh : ∀ v ∈ vs, ∀ u ∈ vs, sameSh (k v) (k u)) (hT : ∀ v ∈ vs, ∃ c r, k v = c :: r ∧ (match c with | .inl _ => true | .inr _ => false) = T)
    (ha : ∀ o, s.heap.get? a = some o → o.cls ≠ .type "tuple") : SrtO.SortableO prog w A s a vs fun v u => lexK (k v) (k u) := by
  intro h' keep
  have hp' : ∀ v ∈ vs, IsFt h' v (k v) := fun v hm => (hp v hm).keeps fun b o e c => keep b o (fun z => by subst z; exact ha o e c) e
  obtain ⟨fs, h1, h2, h3⟩ := ft_firsts hp' hT
  refine ⟨PyProof.Rows.tuples' true, fun Q E hq => ?_, ft_cmp hp' sh⟩
  cases T with
  | true =>
    refine PySem.W.kat_kind (T := .type "int") h1 (by omega) (fun f hm => ?_) (by rfl) ?_
    · obtain ⟨x, t, rfl⟩ := h3 f hm
      exact PySem.W.Looks.now
    · have e : (Value.type "int" != Value.type "tuple") = true := by first | decide +kernel | rfl | decide
      rw [e]
      exact hq
  | false =>
    refine PySem.W.kat_kind (T := .type "str") h1 (by omega) (fun f hm => ?_) (by rfl) ?_
    · obtain ⟨x, t, rfl⟩ := h3 f hm
      exact PySem.W.Looks.now
    · have e : (Value.type "str" != Value.type "tuple") = true := by first | decide +kernel | rfl | decide
      rw [e]
      exact hq
theorem swo_lexK {α : Type} (k : α → List Key) : SrtO.Swo fun v u => lexK (k v) (k u) := ⟨fun x y h => lexK_as h, fun x y z h1 h2 => lexK_neg h1 h2⟩
theorem sorted_ft {l : Addr} {vs : List Value} {k : Value → List Key} {T : Bool} {Q : Value → Shared → Prop} (hl : s.heap.IsList l vs.toArray) (hz : vs.length ≤ sizeLine) (hp : ∀ v ∈ vs, IsFt s.heap v (k v)) (sh : ∀ v ∈ vs, ∀ u ∈ vs, sameSh (k v) (k u)) (hT : ∀ v ∈ vs, ∃ c r, k v = c :: r ∧ (match c with | .inl _ => true | .inr _ => false) = T)
    (h : ∀ (h' : Heap) (d : Addr) (out : List Value), SrtO.Srtd (fun v u => lexK (k v) (k u)) out → out.Perm vs → (∀ b o, s.heap.get? b = some o → h'.get? b = some o) → s.heap.objs.size ≤ d → (∃ n, h'.get? d = some (PyProof.Rows.seqObj "list" out.toArray n)) → Q (.ref d) { s with heap := h' }) :
    wpAny (model prog w) A (call (.builtin "sorted") [.ref l]) Q E s := by
  refine SrtO.sorted_ord (swo_lexK k) hl hz (fun h2 h₁ a ha kk => ?_) fun out hs hb => ?_
  · refine ft_sortableO (s := { s with heap := h₁ }) (by omega) (fun v hm => (hp v hm).keeps fun b o e _ => (kk b o e).2) sh hT fun o e => ?_
    have e' : some o = some (PyProof.Rows.seqObj "list" vs.toArray 0) := e.symm.trans ha
    cases e'
    intro c
    exact absurd (Value.type.inj c) (by decide)
  · exact h _ _ out hs hb.perm (fun b o e => PyProof.Rows.sortedAll_old e) (Nat.le_succ _) (PyProof.Rows.sortedAll_at s.heap vs out.toArray)
end
section
variable {X : Cx}
/-- t is the flat tuple k -/
def FtV (K : PySem.W.Frag) (H : Hp) (x : V) (k : List Key) : Prop := ∃ t, x = V.ref t ∧ TupAt K H t (k.map kV) k.length
abbrev FtVs (K : PySem.W.Frag) (H : Hp) : List V → List (List Key) → Prop := Paired (FtV K H)
theorem kV_inj {a b : Key} (h : kV a = kV b) : a = b := by
  cases a <;> cases b <;> simp [kV] at h ⊢ <;> exact h
theorem map_kV_inj : ∀ {a b : List Key}, a.map kV = b.map kV → a = b
  | [], [], _ => rfl
  | x :: a, y :: b, h => by
    rw [List.map_cons, List.map_cons] at h
    injection h with h1 h2
    rw [kV_inj h1, map_kV_inj h2]
  | [], _ :: _, h => by cases h
  | _ :: _, [], h => by cases h
/-- sorted(xs), xs a list of flat tuples of one form -/
def rSortF (K : PySem.W.Frag) : List V → Hp → VK → Prop := fun vs H Q => ∃ (a : Addr) (xs : List V) (ks : List (List Key)) (T : Bool), vs = [V.ref a] ∧ SqL K H a xs ∧ FtVs K H xs ks ∧ (∀ x ∈ ks, ∀ y ∈ ks, sameSh x y) ∧
  (∀ x ∈ ks, ∃ c r, x = c :: r ∧ (match c with | .inl _ => true | .inr _ => false) = T) ∧
  ∀ ys ks' p, FtVs K H ys ks' → SrtK ks' → ks'.Perm ks → H p = none → Q (.ref p) (upd H p (.lst ys))
theorem paired_mem {α β : Type} {R : α → β → Prop} {xs : List α} {ys : List β} (h : Paired R xs ys) : ∀ x ∈ xs, ∃ y ∈ ys, R x y := by
  induction h with
  | nil => intro x hx; cases hx
  | cons a r ih =>
    intro x hx
    rcases List.mem_cons.mp hx with rfl | hx
    · exact ⟨_, List.mem_cons_self .., a⟩
    · obtain ⟨y, hy, ry⟩ := ih x hx
      exact ⟨y, List.mem_cons_of_mem _ hy, ry⟩
theorem paired_map {α β : Type} {R : α → β → Prop} {f : α → β} : ∀ {xs : List α}, (∀ x ∈ xs, R x (f x)) → Paired R xs (xs.map f)
  | [], _ => .nil
  | x :: xs, h => .cons (h x (List.mem_cons_self ..)) (paired_map fun y hy => h y (List.mem_cons_of_mem _ hy))
theorem paired_eq {α β : Type} {R : α → β → Prop} {f : α → β} {xs : List α} {ys : List β} (h : Paired R xs ys) (u : ∀ x ∈ xs, ∀ y, R x y → f x = y) : xs.map f = ys := by
  induction h with
  | nil => rfl
  | cons a r ih =>
    rw [List.map_cons, u _ (List.mem_cons_self ..) _ a, ih fun x hx => u x (List.mem_cons_of_mem _ hx)]
theorem cr_sortF : CallR X (.builtin "sorted") (rSortF X.K) := by
  intro pins s σ H vs us Q I r h
  obtain ⟨a, xs, ks, T, rfl, hs, hx, sh, hT, q⟩ := h
  obtain ⟨its, rv, hl, hz⟩ := I.list hs
  obtain ⟨u, rfl, ru⟩ := vals1 r
  obtain rfl : u = Value.ref a := ru
  have one : ∀ x k k', FtV X.K H x k → FtV X.K H x k' → k = k' := fun x k k' ⟨t, e, h1⟩ ⟨t', e', h2⟩ => by
    rw [e] at e'; cases e'
    exact map_kV_inj (I.tuple_inj h1.sq h2.sq)
  let kf : V → List Key := fun x => Classical.epsilon fun k => FtV X.K H x k
  have kfs : ∀ x ∈ xs, FtV X.K H x (kf x) := fun x hm => by
    obtain ⟨k, _, hk⟩ := paired_mem hx x hm
    exact Classical.epsilon_spec (p := fun k => FtV X.K H x k) ⟨k, hk⟩
  have ek : xs.map kf = ks := paired_eq hx fun x hm y hy => one x _ _ (kfs x hm) hy
  have kin : ∀ x ∈ xs, kf x ∈ ks := fun x hm => by rw [← ek]; exact List.mem_map_of_mem hm
  obtain ⟨e1, e2⟩ := refs_back rv fun x m => by
    obtain ⟨t, e, _⟩ := kfs x m
    exact ⟨t, e⟩
  have mem : ∀ v ∈ its, backV v ∈ xs := fun v hv => by rw [e1]; exact List.mem_map.mpr ⟨_, hv, rfl⟩
  refine sorted_ft (k := fun u => kf (backV u)) (T := T) hl.isList (by rw [← rv.length]; exact hz) (fun v hv => ?_) (fun v hv u hu => sh _ (kin _ (mem v hv)) _ (kin _ (mem u hu))) (fun v hv => hT _ (kin _ (mem v hv))) fun h' d out h1 h2 kp hd hn => ?_
  · obtain ⟨t, rfl⟩ := e2 v hv
    obtain ⟨t', e, ht⟩ := kfs _ (mem _ hv)
    cases e
    obtain ⟨its2, r2, ⟨o, ho, hc, n, hd⟩, _⟩ := I.tuple ht.sq
    exact ⟨t, o, n, its2.toArray, rfl, ho, hc, hd, by rw [List.toList_toArray]; exact r2⟩
  · have h3 : ∀ u ∈ out, ∃ a, u = Value.ref a := fun u hu => e2 u (h2.mem_iff.mp hu)
    obtain ⟨n, hn⟩ := hn
    have hb : (out.map backV).Perm xs := by
      rw [e1]
      exact h2.map backV
    have hy : ∀ y ∈ out.map backV, FtV X.K H y (kf y) := fun y hm => kfs y (hb.mem_iff.mp hm)
    refine ⟨.ref d, upd H d (.lst (out.map backV)), I.laid (t' := s.toks) kp hd ⟨?_, out, n, vals_back h3, hn⟩, rfl, q _ ((out.map backV).map kf) d (paired_map hy) ?_ (by rw [← ek]; exact hb.map kf) (I.hok.fresh hd)⟩
    · rw [hb.length_eq]
      exact hz
    · show List.Pairwise _ _
      rw [List.map_map]
      exact List.pairwise_map.mpr h1
/-- sorted(l), l a list of flat tuples of one form: a new one -/
def wSortF : RLm := fun ds m Q => match ds with
  | [.ref a] => ∃ (ks : List (List Key)) (T : Bool), rdM m a = some (.lst (ks.map fun k => .tup (k.map kD))) ∧ (∀ x ∈ ks, ∀ y ∈ ks, sameSh x y) ∧ (∀ x ∈ ks, ∃ c r, x = c :: r ∧ (match c with | .inl _ => true | .inr _ => false) = T) ∧
      ∀ ys, SrtK ys → ys.Perm ks → newO (.lst (ys.map fun k => .tup (k.map kD))) m Q
  | _ => False
theorem reps_kD {K : PySem.W.Frag} {H : Hp} : ∀ {k : List Key} {vs : List V}, Reps K H (k.map kD) vs → vs = k.map kV
  | [], _, h => Reps.nil_iff.mp h
  | c :: k, _, h => by
    obtain ⟨v, r, e, a, b⟩ := Reps.cons_iff.mp h
    rw [e, reps_kD b, kD_rep a]; rfl
theorem kD_reps {K : PySem.W.Frag} {H : Hp} : ∀ {k : List Key}, Reps K H (k.map kD) (k.map kV)
  | [] => Reps.nil
  | c :: k => Reps.cons rep_kD kD_reps
theorem reps_ft {K : PySem.W.Frag} {H : Hp} : ∀ {ks : List (List Key)} {vs : List V}, Reps K H (ks.map fun k => .tup (k.map kD)) vs → FtVs K H vs ks
  | [], _, h => by rw [Reps.nil_iff.mp h]; exact .nil
  | k :: ks, _, h => by
    obtain ⟨v, r, e, a, b⟩ := Reps.cons_iff.mp h
    subst e
    obtain ⟨t, xs, e2, s, rr⟩ := Rep.tup_iff.mp a
    rw [reps_kD rr, List.length_map] at s
    exact .cons ⟨t, e2, s⟩ (reps_ft b)
theorem ft_reps {K : PySem.W.Frag} {H : Hp} {ks : List (List Key)} {vs : List V} (h : FtVs K H vs ks) : Reps K H (ks.map fun k => .tup (k.map kD)) vs := by
  unfold FtVs at h
  induction h with
  | nil => exact Reps.nil
  | @cons x k xs ks a r ih =>
    obtain ⟨t, e, s⟩ := a
    subst e
    exact Reps.cons (Rep.tup_iff.mpr ⟨t, k.map kV, rfl, by rw [List.length_map]; exact s, kD_reps⟩) ih
theorem mc_sorted1 : MCall X (.builtin "sorted") wSortF := mcall_of cr_sortF fun ds vs H m Q Qm hx r q k => by
  unfold wSortF at q; split at q
  · obtain ⟨v, e, x⟩ := reps1 hx
    rw [Rep.ref_iff.mp x] at e
    obtain ⟨ks, T, h1, sh, hT, q⟩ := q
    obtain ⟨xs, s, rr⟩ := rd_lst r h1
    refine ⟨_, xs, ks, T, e, s, reps_ft rr, sh, hT, fun ys ks' p hy hs hp h => ?_⟩
    exact k _ _ _ _ (q ks' hs hp p (r.out h)) (r.new h ⟨_, rfl, ft_reps hy⟩) (Step.new r h) Rep.ref
  · exact q.elim
end
end Mm
namespace Mm
open PySem L2
open PyProof.Rows (envOfC)
section
variable {X : Cx} {B : Bs} {a b c : Expr} {la : TAm} {pos : Pos}
/-! ### < of numbers or of texts -/
def wLt : R2m := fun x y m Q => match x, y with
  | .int i, .int j => Q (.bl (decide (i < j))) m
  | .str i, .str j => Q (.bl (decide (i.cps.toList < j.cps.toList))) m
  | _, _ => False
theorem mo_ltt : MOp X (compareOp .Lt) wLt := mop_of (OpR.or op_lt op_lt_str) fun x y v w H m Q Qm hx hy r q k => by
  unfold wLt at q
  split at q
  · rw [Rep.int_iff.mp hx, Rep.int_iff.mp hy]
    exact .inl ⟨_, _, rfl, rfl, k _ _ _ _ q r Step.refl Rep.bl⟩
  · exact .inr ⟨_, _, Rep.str_iff.mp hx, Rep.str_iff.mp hy, k _ _ _ _ q r Step.refl Rep.bl⟩
  · exact q.elim
theorem i_ltI {i j : Int} {m : Mem} {Q : KM} (h : Q (.bl (decide (i < j))) m) : wLt (.int i) (.int j) m Q := h
theorem i_ltS {i j : Str} {m : Mem} {Q : KM} (h : Q (.bl (decide (i.cps.toList < j.cps.toList))) m) : wLt (.str i) (.str j) m Q := h
/-! ### three at once -/
def thrAt (ds : List D) (k : D → D → D → Prop) : Prop := match ds with
  | [x, y, z] => k x y z
  | _ => False
theorem i_thr {x y z : D} {k : D → D → D → Prop} (h : k x y z) : thrAt [x, y, z] k := h
def wPar3 (i j l : Nat) (t : TAm) : TSm := fun E ρ m => t ρ m fun ds m1 => thrAt ds fun x y z => E.nx (((ρ.set i (some x)).set j (some y)).set l (some z)) m1
theorem i_par3 {i j l : Nat} {E : EndsM} {ρ : StM} {m : Mem} (h : la ρ m fun ds m1 => thrAt ds fun x y z => E.nx (((ρ.set i (some x)).set j (some y)).set l (some z)) m1) : wPar3 i j l la E ρ m := h
theorem ms_par3 {i j l : Nat} {x y z : Str} {px py pz pt : Pos} {kt k2 pt2} (hc : X.calm = true) (hN : X.N.Nodup) (hi : X.N[i]? = some x) (hj : X.N[j]? = some y) (hl : X.N[l]? = some z) (hij : i ≠ j) (hil : i ≠ l) (hjl : j ≠ l)
    (hx : X.env.scope.names.lookup x = some .local) (hy : X.env.scope.names.lookup y = some .local) (hz : X.env.scope.names.lookup z = some .local) (ha : MA X B [a, b, c] la)
    (hw : swappedStores [.Tuple [.Name x px, .Name y py, .Name z pz] kt pt] (.Tuple [a, b, c] k2 pt2) X.env = pure (some [x, y, z]))
    (hs : swapsWithSole [.Tuple [.Name x px, .Name y py, .Name z pz] kt pt] (.Tuple [a, b, c] k2 pt2) pos.line X.env = pure false := by rfl) :
    MS X B (.Assign [.Tuple [.Name x px, .Name y py, .Name z pz] kt pt] (.Tuple [a, b, c] k2 pt2) pos) (wPar3 i j l la) := psImp (ps_par3 hc hN hi hj hl hij hil hjl hx hy hz ha hw hs) fun D σ H ⟨ρ, m, E, A, q, n, _⟩ => by
  refine ⟨ρ, m, _, A, q, fun ds m1 vs H1 q1 r1 t1 x1 => ?_⟩
  unfold thrAt at q1
  split at q1
  · obtain ⟨v, r, e, y1, y2⟩ := Reps.cons_iff.mp x1
    obtain ⟨w, r', e', z1, z2⟩ := Reps.cons_iff.mp y2
    obtain ⟨u, r'', e'', s1, s2⟩ := Reps.cons_iff.mp z2
    rw [Reps.nil_iff.mp s2] at e''
    subst e'' e'
    exact ⟨v, w, u, e, n _ _ _ _ q1 r1 t1 (Ss.set s1 l (Ss.set z1 j (Ss.set y1 i (A.s.stay (t1.tups A.r)))))⟩
  · exact q1.elim
/-! ### == where one of the two is flat enough; == of lists of dicts -/
def EqM (m : Mem) (x y : D) (k : Bool) : Prop := scD x y = some k ∨ ∃ t u, Vw m x t ∧ Vw m y u ∧ t.canLay0 = true ∧ u.canLay0 = true ∧ min t.depth u.depth ≤ 64 ∧ k = PyData.eqv t u
def rEqM (K : PySem.W.Frag) (neg : Bool) : R2 := fun x y H Q => ∃ d e, Dp K H x d ∧ Dp K H y e ∧ d.canLay0 = true ∧ e.canLay0 = true ∧ min d.depth e.depth ≤ 64 ∧ Q (.bl (if neg then !PyData.eqv d e else PyData.eqv d e)) H
theorem op_eqM (hu : X.A.units + 64 < cLine) : OpR X (compareOp .Eq) (rEqM X.K false) := by
  intro pins s σ H x y v u Q I rx ry h
  obtain ⟨d, e, hd, he, sd, se, hm, q⟩ := h
  obtain ⟨as, r1⟩ := Dp.reads I d x v hd rx
  obtain ⟨bs, r2⟩ := Dp.reads I e y u he ry
  exact SeqAt.compareEq_reads r1 r2 sd se (by omega) ⟨.bl _, H, I, rfl, q⟩
theorem op_neM (hu : X.A.units + 64 < cLine) : OpR X (compareOp .NotEq) (rEqM X.K true) := by
  intro pins s σ H x y v u Q I rx ry h
  obtain ⟨d, e, hd, he, sd, se, hm, q⟩ := h
  obtain ⟨as, r1⟩ := Dp.reads I d x v hd rx
  obtain ⟨bs, r2⟩ := Dp.reads I e y u he ry
  exact SeqAt.compareNe_reads r1 r2 sd se (by omega) ⟨.bl _, H, I, rfl, q⟩
def wEqM : R2m := fun x y m Q => ∃ k, EqM m x y k ∧ Q (.bl k) m
def wNeM : R2m := fun x y m Q => ∃ k, EqM m x y k ∧ Q (.bl (!k)) m
theorem i_eqM {x y : D} {m : Mem} {Q : KM} {k : Bool} (e : EqM m x y k) (h : Q (.bl k) m) : wEqM x y m Q := ⟨k, e, h⟩
theorem i_neM {x y : D} {m : Mem} {Q : KM} {k : Bool} (e : EqM m x y k) (h : Q (.bl (!k)) m) : wNeM x y m Q := ⟨k, e, h⟩
theorem mo_eqM {k : Nat} (hr : Room k X.A) : MOp X (compareOp .Eq) wEqM := mop_of (OpR.or op_eq (op_eqM (hu64 hr))) fun x y v w H m Q Qm hx hy r q k => by
  obtain ⟨b, h, q⟩ := q
  have fin := k _ _ _ _ q r Step.refl Rep.bl
  rcases h with h | ⟨t, u, h1, h2, s1, s2, hm, e⟩
  · obtain ⟨z1, z2⟩ := scD_of hx hy h
    exact .inl ⟨z1, by rw [z2]; exact fin⟩
  · exact .inr ⟨t, u, h1.dp r _ _ _ hx, h2.dp r _ _ _ hy, s1, s2, hm, by rw [if_neg Bool.false_ne_true, ← e]; exact fin⟩
theorem mo_neM {k : Nat} (hr : Room k X.A) : MOp X (compareOp .NotEq) wNeM := mop_of (OpR.or op_ne (op_neM (hu64 hr))) fun x y v w H m Q Qm hx hy r q k => by
  obtain ⟨b, h, q⟩ := q
  have fin := k _ _ _ _ q r Step.refl Rep.bl
  rcases h with h | ⟨t, u, h1, h2, s1, s2, hm, e⟩
  · obtain ⟨z1, z2⟩ := scD_of hx hy h
    exact .inl ⟨z1, by rw [z2]; exact fin⟩
  · exact .inr ⟨t, u, h1.dp r _ _ _ hx, h2.dp r _ _ _ hy, s1, s2, hm, by rw [if_pos rfl, ← e]; exact fin⟩
/-- two lists of dicts of the same flat things under the same keys, pairwise -/
def SameL (m : Mem) : List D → List D → Prop
  | [], [] => True
  | x :: xs, y :: ys => (∃ a b, x = .ref a ∧ y = .ref b ∧ SameD m a b) ∧ SameL m xs ys
  | _, _ => False
def wEqL : R2m := fun x y m Q => refAt x fun a => refAt y fun b => ∃ xs ys, rdM m a = some (.lst xs) ∧ rdM m b = some (.lst ys) ∧ SameL m xs ys ∧ Q (.bl true) m
theorem i_eqL {a b : Addr} {m : Mem} {Q : KM} {xs ys : List D} (h1 : rdM m a = some (.lst xs)) (h2 : rdM m b = some (.lst ys)) (h : SameL m xs ys) (q : Q (.bl true) m) : wEqL (.ref a) (.ref b) m Q := ⟨xs, ys, h1, h2, h, q⟩
theorem sameL_paired {K : PySem.W.Frag} {H : Hp} {m : Mem} (r : RM K H m) : ∀ {xs ys : List D} {vs ws : List V}, SameL m xs ys → Reps K H xs vs → Reps K H ys ws → Paired (EqV K H 2) vs ws
  | [], [], _, _, _, h1, h2 => by rw [Reps.nil_iff.mp h1, Reps.nil_iff.mp h2]; exact .nil
  | x :: xs, y :: ys, _, _, ⟨⟨a, b, e1, e2, h⟩, t⟩, h1, h2 => by
    obtain ⟨v, vs, rfl, x1, x2⟩ := Reps.cons_iff.mp h1
    obtain ⟨w, ws, rfl, y1, y2⟩ := Reps.cons_iff.mp h2
    subst e1 e2
    refine .cons ?_ (sameL_paired r t x2 y2)
    obtain ⟨ks, ls, z1, z2, z3, z4⟩ := kvs_same r h
    exact .inr (.inr (.inr ⟨a, b, ks, ls, Rep.ref_iff.mp x1, Rep.ref_iff.mp y1, z1, z2, z3, fun p hp => ⟨p.2, (z4 p hp).1, .inl ⟨rfl, (z4 p hp).2⟩⟩⟩))
  | [], _ :: _, _, _, h, _, _ => h.elim
  | _ :: _, [], _, _, h, _, _ => h.elim
theorem mo_eqL {k : Nat} (hr : Room k X.A) : MOp X (compareOp .Eq) wEqL := mop_of (op_eqV (hu64 hr)) fun x y v w H m Q Qm hx hy r q k => by
  unfold wEqL refAt at q
  split at q
  · split at q
    · obtain ⟨xs, ys, h1, h2, h, q⟩ := q
      obtain ⟨vs, s1, r1⟩ := rd_lst r h1
      obtain ⟨ws, s2, r2⟩ := rd_lst r h2
      exact ⟨2, by omega, .inl ⟨_, _, vs, ws, Rep.ref_iff.mp hx, Rep.ref_iff.mp hy, s1, s2, sameL_paired r h r1 r2⟩, k _ _ _ _ q r Step.refl Rep.bl⟩
    · exact q.elim
  · exact q.elim
/-- a global name whose value is a datum -/
def GlT (K : PySem.W.Frag) (mg : Str → Option Value) (x : Str) (d : D) : Prop := ∃ v u, mg x = some u ∧ RelV v u ∧ ∀ H, Rep K H d v
theorem gl_tupS {K : PySem.W.Frag} {mg : Str → Option Value} {x : Str} {t : Addr} {zs : List Str} {o : Obj} {its : Array Value} {n : Nat} (hm : mg x = some (.ref t)) (l : K.lookup t = some o) (hc : o.cls = .type "tuple") (hd : o.data = .seq its n) (hz : its.size ≤ sizeLine)
    (hv : Vals (zs.map V.str) its.toList) (h : zs.length = 1 ∨ zs.length = 5) : GlT K mg x (.tup (zs.map .str)) :=
  ⟨.ref t, _, hm, rfl, fun H => Rep.tup_iff.mpr ⟨t, zs.map V.str, rfl, .inr ⟨by rw [List.length_map]; exact h, .inr ⟨o, its, n, l, hc, hd, hz, hv⟩⟩, by
    clear hv h
    induction zs with
    | nil => exact Reps.nil
    | cons z zs ih => exact Reps.cons Rep.str ih⟩⟩
theorem mx_gt {B : Bs} {x : Str} {pos : Pos} {d : D} (h : GlT X.K X.mg x d) (hg : Gl X x := by rfl) (hd : (x == ("__debug__" : Str)) = false := by decide) : MX X B (.Name x pos) (wC d) := by
  obtain ⟨v, u, h1, h2, h3⟩ := h
  exact mx_glob hg h1 h2 h3 hd
end
end Mm
namespace Mm
open PySem L2
section
variable {X : Cx} {B : Bs} {a b : Expr} {rest : List Expr} {pos : Pos} {pa pb : TEm}
/-! ### x is True, x is False, where x is None or one of the two -/
def isBl (x : D) (b : Bool) : Option Bool := match x with
  | .bl c => some (decide (c = b))
  | .non => some false
  | _ => none
def wIsB : R2m := fun x y m Q => match y with
  | .bl b => ∃ k, isBl x b = some k ∧ Q (.bl k) m
  | _ => False
def rIsB2 : R2 := fun x y H Q => ∃ b : Bool, y = .bl b ∧ ((∃ a : Bool, x = .bl a ∧ Q (.bl (decide (a = b))) H) ∨ (x = .non ∧ Q (.bl false) H))
theorem op_isB2 : OpR X (compareOp .Is) rIsB2 := by
  intro pins s σ H x y v u Q I rx ry h
  obtain ⟨b, rfl, h⟩ := h
  cases (show u = Value.bool b from ry)
  rcases h with ⟨a, rfl, q⟩ | ⟨rfl, q⟩
  · cases (show v = Value.bool a from rx)
    by_cases e : a = b
    · subst e
      exact wpAny_is_self rfl ⟨.bl true, H, I, rfl, by simpa using q⟩
    · exact wpAny_is_other rfl (fun z => e (Value.bool.inj z)) ⟨.bl false, H, I, rfl, by simpa [e] using q⟩
  · cases (show v = Value.none from rx)
    exact wpAny_is_other rfl (fun z => by cases z) ⟨.bl false, H, I, rfl, q⟩
theorem mo_isB : MOp X (compareOp .Is) wIsB := mop_of op_isB2 fun x y v w H m Q Qm hx hy r q k => by
  unfold wIsB at q
  split at q
  · obtain ⟨c, e, q⟩ := q
    refine ⟨_, Rep.bl_iff.mp hy, ?_⟩
    have fin := k _ _ _ _ q r Step.refl Rep.bl
    unfold isBl at e
    split at e
    · cases e
      exact .inl ⟨_, Rep.bl_iff.mp hx, fin⟩
    · cases e
      exact .inr ⟨Rep.non_iff.mp hx, fin⟩
    · cases e
  · exact q.elim
theorem i_isB {x : D} {b k : Bool} {m : Mem} {Q : KM} (e : isBl x b = some k) (h : Q (.bl k) m) : wIsB x (.bl b) m Q := ⟨k, e, h⟩
/-! ### x in a tuple of tuples -/
def InT (m : Mem) (x y : D) (k : Bool) : Prop := ∃ t ts, Vw m x t ∧ Vw m y (.tuple ts) ∧ t.canLay0 = true ∧ PyData.canLayAll0 ts = true ∧ min (PyData.depthAll ts) t.depth ≤ 64 ∧ k = ts.any fun z => PyData.eqv z t
def rInT (K : PySem.W.Frag) : R2 := fun x y H Q => ∃ d ds, Dp K H x d ∧ Dp K H y (.tuple ds) ∧ d.canLay0 = true ∧ PyData.canLayAll0 ds = true ∧ min (PyData.depthAll ds) d.depth ≤ 64 ∧ Q (.bl (ds.any fun z => PyData.eqv z d)) H
theorem op_inT (hu : X.A.units + 65 < cLine) : OpR X (compareOp .In) (rInT X.K) := by
  intro pins s σ H x y v u Q I rx ry h
  obtain ⟨d, ds, hd, he, sd, se, hm, q⟩ := h
  obtain ⟨as, r1⟩ := Dp.reads I d x v hd rx
  obtain ⟨bs, r2⟩ := Dp.reads I (.tuple ds) y u he ry
  exact SeqAt.in_tuple_reads r2 r1 se sd (by omega) ⟨.bl _, H, I, rfl, q⟩
def wInT : R2m := fun x y m Q => ∃ k, InT m x y k ∧ Q (.bl k) m
theorem mo_inT {k : Nat} (hr : Room k X.A) : MOp X (compareOp .In) wInT := mop_of (op_inT (hu65 hr)) fun x y v w H m Q Qm hx hy r q k => by
  obtain ⟨b, ⟨t, ts, h1, h2, s1, s2, hm, e⟩, q⟩ := q
  exact ⟨t, ts, h1.dp r _ _ _ hx, h2.dp r _ _ _ hy, s1, s2, hm, by rw [← e]; exact k _ _ _ _ q r Step.refl Rep.bl⟩
theorem i_inT {x y : D} {m : Mem} {Q : KM} {k : Bool} (e : InT m x y k) (h : Q (.bl k) m) : wInT x y m Q := ⟨k, e, h⟩
/-! ### x and y, where x is None, True or False -/
def truN (d : D) : Option Bool := match d with
  | .non => some false
  | .bl b => some b
  | _ => none
def wAndT (p q : TEm) : TEm := fun ρ m Q => p ρ m fun d m1 => ∃ k, truN d = some k ∧ if k = true then q ρ m1 Q else Q d m1
theorem truV_of {K : PySem.W.Frag} {H : Hp} {d : D} {v : V} {k : Bool} (x : Rep K H d v) (e : truN d = some k) : TruV K v H k := by
  unfold truN at e
  split at e
  · cases e; rw [Rep.non_iff.mp x]; exact rfl
  · cases e; rw [Rep.bl_iff.mp x]; exact rfl
  · cases e
theorem mx_andT (ha : MX X B a pa) (hb : MX X B (.BoolOp .And (b :: rest) pos) pb) : MX X B (.BoolOp .And (a :: b :: rest) pos) (wAndT pa pb) :=
  peImp (pe_andT ha hb) fun σ H Q ⟨ρ, m, Qm, A, q, k⟩ => by
    refine ⟨ρ, m, _, A, q, fun d m1 v H1 ⟨c, e, q1⟩ r1 t1 x1 => ?_⟩
    refine ⟨c, truV_of x1 e, ?_⟩
    cases c with
    | true => simp only [if_true] at q1 ⊢; exact ⟨ρ, m1, Qm, A.step r1 t1, q1, fun d m' v H' q2 r2 t2 => k d m' v H' q2 r2 (t1.trans t2)⟩
    | false => simp only [Bool.false_eq_true, if_false] at q1 ⊢; exact k _ _ _ _ q1 r1 t1 x1
end
end Mm
namespace Mm
open PySem L2
open PySem.SeqAt PySem.MeetsSeq PySem.MeetsSeq2 PySem.MeetsSeq3 PySem.SeqRoads2 PySem.AutoSeq1
/-! ### != of two lists that are alike, item by item -/
section
variable {prog : Program} {w : World}
theorem alike_walk (l b : Addr) (xs ys : Array Value) (n n2 : Nat) (dd dd2 : Option Addr) (sl sl2 : Array (Option Value)) (hsz : xs.size = ys.size) (k : Nat) :
    ∀ i : Nat, xs.size - i = k → MeetsIn prog w (Builtin.«list.__eq__.loop» ⟨[.ref l, .ref b, rawInt i, rawInt 3], []⟩)
      (fun A R s => s.heap.get? l = some { cls := .type "list", dict := dd, data := .seq xs n, slots := sl } ∧ s.heap.get? b = some { cls := .type "list", dict := dd2, data := .seq ys n2, slots := sl2 } ∧
        (∀ j (h1 : j < xs.size) (h2 : j < ys.size), EqP prog w A.in1 s xs[j] ys[j] true) ∧ R (.ok (.ret (.bool false))) s) := by
  induction k with
  | zero =>
    intro i hk A R s h
    obtain ⟨hp, g, d, tk, os⟩ := s
    obtain ⟨hl, hb, -, h⟩ := h
    wp_walk using wpAny_loadPart' hl, wpAny_loadPart' hb
    have e1 : xs[((i : Nat) : Int).toNat]? = none := by simp; omega
    have e2 : ys[((i : Nat) : Int).toNat]? = none := by simp; omega
    rw [e1, e2]
    wp_walk using wpAny_loadPart' hl, wpAny_loadPart' hb
    show R (.ok (.ret (.bool (xs.size != ys.size)))) _
    rw [show (xs.size != ys.size) = false by simp [hsz]]
    exact h
  | succ k ih =>
    intro i hk A R s h
    obtain ⟨hp, g, d, tk, os⟩ := s
    obtain ⟨hl, hb, he, h⟩ := h
    wp_walk using wpAny_loadPart' hl, wpAny_loadPart' hb
    have l1 : i < xs.size := by omega
    have l2 : i < ys.size := by omega
    have e1 : xs[((i : Nat) : Int).toNat]? = some xs[i] := by simp [l1]
    have e2 : ys[((i : Nat) : Int).toNat]? = some ys[i] := by simp [l2]
    rw [e1, e2]
    refine wpAny_bind (he i l1 l2 _ _ ?_)
    wp_walk
    rw [show ((i : Int) + 1) = ((i + 1 : Nat) : Int) by push_cast; rfl]
    exact ⟨plainId_quiet plain_eq_loop _, codeAny_builtin entry_eq_loop (by
      rw [Around.under_plainId plain_eq_loop _]
      exact ih (i + 1) (by omega) A R _ ⟨hl, hb, he, h⟩)⟩
theorem alike_ne (l b : Addr) (xs ys : Array Value) (n n2 : Nat) (dd dd2 : Option Addr) (sl sl2 : Array (Option Value)) (hsz : xs.size = ys.size) :
    MeetsIn prog w (Builtin.«list.__ne__» ⟨[.ref l, .ref b], []⟩)
      (fun A R s => s.heap.get? l = some { cls := .type "list", dict := dd, data := .seq xs n, slots := sl } ∧ s.heap.get? b = some { cls := .type "list", dict := dd2, data := .seq ys n2, slots := sl2 } ∧
        (∀ j (h1 : j < xs.size) (h2 : j < ys.size), EqP prog w A.in1 s xs[j] ys[j] true) ∧ R (.ok (.ret (.bool false))) s) := by
  intro A R s h
  obtain ⟨hp, g, d, tk, os⟩ := s
  obtain ⟨hl, hb, he, h⟩ := h
  have f3 := AutoSeq1.sub_list_list
  have hne : ¬ (xs.size != ys.size) = true := by simp [hsz]
  wp_walk using wpAny_loadPart' hl, wpAny_loadPart' hb
  exact ⟨plainId_quiet plain_eq_loop _, codeAny_builtin entry_eq_loop (by
    rw [Around.under_plainId plain_eq_loop _]
    exact alike_walk l b xs ys n n2 dd dd2 sl sl2 hsz _ 0 rfl A R _ ⟨hl, hb, he, h⟩)⟩
theorem alike_rc {A : Around} {s : Shared} {l b : Addr} {xs ys : Array Value} (hl : s.heap.IsList l xs) (hb : s.heap.IsList b ys) (hsz : xs.size = ys.size) (hu : A.units < cLine)
    (he : ∀ j (h1 : j < xs.size) (h2 : j < ys.size), EqP prog w A.in1 s xs[j] ys[j] true) (E Q : Value → Shared → Prop) (h : Q (.bool false) s) : wpAny (model prog w) A (richCompare .NotEq (.ref l) (.ref b)) Q E s := by
  obtain ⟨⟨c1, dd, data, sl⟩, ho, hc, n, hd⟩ := id hl
  obtain ⟨⟨c2, dd2, data2, sl2⟩, ho2, hc2, n2, hd2⟩ := id hb
  simp only at hc hd hc2 hd2
  subst hc hd hc2 hd2
  have ta : s.TypeIs (.ref l) "list" := ⟨_, ho, rfl⟩
  have tb : s.TypeIs (.ref b) "list" := ⟨_, ho2, rfl⟩
  exact wpAny_richCompare_same_room (op := .NotEq) ta tb F.slot_list_ne (call_meetsIn F.slot_list_ne ta F.entry_list_ne (F.args_list_ne_2 _ _) (alike_ne l b xs ys n n2 dd dd2 sl sl2 hsz)
    ⟨ho, ho2, he, show Value.bool false ≠ Value.notImplemented ∧ Q (.bool false) s from ⟨(fun x => nomatch x), h⟩⟩) hu
end
section
variable {X : Cx}
def rNeV (K : PySem.W.Frag) : R2 := fun x y H Q => ∃ n a b xs ys, n ≤ 60 ∧ x = .ref a ∧ y = .ref b ∧ SqL K H a xs ∧ SqL K H b ys ∧ Paired (EqV K H n) xs ys ∧ Q (.bl false) H
theorem op_neV (hu : X.A.units + 64 < cLine) : OpR X (compareOp .NotEq) (rNeV X.K) := by
  intro pins s σ H x y v u Q I rx ry h
  obtain ⟨n, a, b, xs, ys, hn, rfl, rfl, ha, hb, hp, q⟩ := h
  cases (show v = Value.ref a from rx)
  cases (show u = Value.ref b from ry)
  obtain ⟨us, r1, p1, _⟩ := I.list ha
  obtain ⟨ws, r2, p2, _⟩ := I.list hb
  have hsz : us.toArray.size = ws.toArray.size := by
    rw [List.size_toArray, List.size_toArray, ← r1.length, ← r2.length]
    exact Paired.length hp
  refine alike_rc p1.isList p2.isList hsz (by omega) (fun j h1 h2 => ?_) _ _ ⟨.bl false, H, I, rfl, q⟩
  have k := items_run (eqV_run I n X.A.in1 (by show X.A.units + 1 + n < cLine; omega)) hp r1 r2 j (by simpa using h1) (by simpa using h2)
  simpa using k
def wNeL : R2m := fun x y m Q => refAt x fun a => refAt y fun b => ∃ xs ys, rdM m a = some (.lst xs) ∧ rdM m b = some (.lst ys) ∧ SameL m xs ys ∧ Q (.bl false) m
theorem i_neL {a b : Addr} {m : Mem} {Q : KM} {xs ys : List D} (h1 : rdM m a = some (.lst xs)) (h2 : rdM m b = some (.lst ys)) (h : SameL m xs ys) (q : Q (.bl false) m) : wNeL (.ref a) (.ref b) m Q := ⟨xs, ys, h1, h2, h, q⟩
theorem mo_neL {k : Nat} (hr : Room k X.A) : MOp X (compareOp .NotEq) wNeL := mop_of (op_neV (hu64 hr)) fun x y v w H m Q Qm hx hy r q k => by
  unfold wNeL refAt at q
  split at q
  · split at q
    · obtain ⟨xs, ys, h1, h2, h, q⟩ := q
      obtain ⟨vs, s1, r1⟩ := rd_lst r h1
      obtain ⟨ws, s2, r2⟩ := rd_lst r h2
      exact ⟨2, _, _, vs, ws, by omega, Rep.ref_iff.mp hx, Rep.ref_iff.mp hy, s1, s2, sameL_paired r h r1 r2, k _ _ _ _ q r Step.refl Rep.bl⟩
    · exact q.elim
  · exact q.elim
end
end Mm
namespace Mm
open PySem L2
section
variable {X : Cx} {B : Bs} {tg iter : Expr} {p : TEm}
/-! ### over the signs of a text -/
def signsD (x : Str) : List D := x.cps.toList.map fun c => .str ⟨#[c]⟩
def iStrM (p : TEm) : TIm := fun ρ m R => p ρ m fun d m1 => ∃ x, d = .str x ∧ R (signsD x) (fun _ => True) m1
theorem mi_str (h : MX X B iter p) : MI X B tg iter (iStrM p) := piImp (pi_str h) fun σ H R ⟨ρ, m, Rm, A, q, k⟩ => by
  refine ⟨ρ, m, _, A, q, fun d m1 v H1 q1 r1 t1 x1 => ?_⟩
  obtain ⟨x, rfl, q1⟩ := q1
  have ev : v = .str x := Rep.str_iff.mp x1
  refine ⟨x, ev, k _ _ _ _ (Its x) q1 r1 t1 fun i m' H' s r c => ?_⟩
  refine ⟨fun d e => ?_, fun e => ?_⟩
  · unfold signsD at e
    rw [List.getElem?_map] at e
    obtain ⟨c, ec, rfl⟩ := Option.map_eq_some_iff.mp e
    rw [Array.getElem?_toList] at ec
    have hlt : i < x.cps.size := (Array.getElem?_eq_some_iff.mp ec).1
    refine ⟨hlt, fun y H2 z => ?_⟩
    obtain ⟨rfl, c', ec', rfl⟩ := z
    rw [ec] at ec'
    cases ec'
    exact ⟨r, Step.refl, Rep.str⟩
  · unfold signsD at e
    rw [List.length_map, Array.length_toList] at e
    exact e
end
/-! ### texts in order -/
def SrtT (l : List Str) : Prop := l.Pairwise fun x y => ¬ y.cps.toList < x.cps.toList
theorem le_le {a b c : List Nat} (h : ¬ b < a) (h2 : ¬ c < b) : ¬ c < a := fun z => by
  by_cases e : a = b
  · rw [e] at z; exact h2 z
  · exact h2 (lt_tr z (by
      by_cases w : a < b
      · exact w
      · exact (e (lt_tri w h)).elim))
theorem rising_srt : ∀ (l : List Str) (p : Str), PyProof.Rows.risingS p l = true → SrtT (p :: l)
  | [], p, _ => List.pairwise_cons.mpr ⟨(fun _ h => nomatch h), List.Pairwise.nil⟩
  | x :: l, p, h => by
    simp only [PyProof.Rows.risingS, Bool.and_eq_true, Bool.not_eq_true', PyProof.Rows.ltCps_eq, decide_eq_false_iff_not] at h
    have t := rising_srt l x h.2
    refine List.pairwise_cons.mpr ⟨fun y hy => ?_, t⟩
    rcases List.mem_cons.mp hy with rfl | hy
    · exact h.1
    · exact le_le h.1 ((List.pairwise_cons.mp t).1 y hy)
theorem sorted_srt : ∀ {l : List Str}, PyProof.Rows.sortedS l = true → SrtT l
  | [], _ => List.Pairwise.nil
  | x :: l, h => rising_srt l x h
theorem srtT_uniq : ∀ {l m : List Str}, SrtT l → SrtT m → l.Perm m → l = m
  | [], m, _, _, p => (List.nil_perm.mp p).symm
  | x :: l, [], _, _, p => (List.perm_nil.mp p)
  | x :: l, y :: m, h, h2, p => by
    obtain ⟨a1, a2⟩ := List.pairwise_cons.mp h
    obtain ⟨b1, b2⟩ := List.pairwise_cons.mp h2
    have e : x = y := by
      by_cases e : x = y
      · exact e
      · have hx : x ∈ m := ((List.mem_cons.mp (p.mem_iff.mp List.mem_cons_self)).resolve_left e)
        have hy : y ∈ l := ((List.mem_cons.mp (p.mem_iff.mpr List.mem_cons_self)).resolve_left fun z => e z.symm)
        exact str_ext (lt_tri (b1 x hx) (a1 y hy))
    subst e
    rw [srtT_uniq a2 b2 (List.Perm.cons_inv p)]
section
variable {X : Cx} {B : Bs}
theorem Reps.ofStrs {K : PySem.W.Frag} {H : Hp} : ∀ {ys : List Str}, Reps K H (ys.map D.str) (ys.map V.str)
  | [] => Reps.nil
  | _ :: _ => Reps.cons Rep.str Reps.ofStrs
/-- sorted(l), l a list of texts -/
def wSortS : RLm := fun ds m Q => match ds with
  | [.ref a] => ∃ xs : List Str, rdM m a = some (.lst (xs.map D.str)) ∧ xs.length < 64 ∧ ∀ ys, SrtT ys → ys.Perm xs → newO (.lst (ys.map D.str)) m Q
  | _ => False
theorem mc_sortedS : MCall X (.builtin "sorted") wSortS := mcall_of cr_sortedS fun ds vs H m Q Qm hx r q k => by
  unfold wSortS at q; split at q
  · obtain ⟨v, e, x⟩ := reps1 hx
    rw [Rep.ref_iff.mp x] at e
    obtain ⟨xs, h1, few, q⟩ := q
    obtain ⟨ws, s, rr⟩ := rd_lst r h1
    rw [Reps.strs rr] at s
    exact ⟨_, xs, e, s, few, fun ys p pm so h => k _ _ _ _ (q ys (sorted_srt so) pm p (r.out h)) (r.new h ⟨_, rfl, Reps.ofStrs⟩) (Step.new r h) Rep.ref⟩
  · exact q.elim
end
end Mm
/-! defs that may raise, what is caught -/
namespace Mm
open PySem L2
open PyProof.Rows (envOfC)
section
variable {P : Program} {w : World} {K : PySem.W.Frag} {mg : Str → Option Value} {base : Heap}
/-- as fn_m, for a def that may raise; E' is the way out that the frame knows, E the one that is promised -/
theorem fn_mX {k : Nat} {x qual : Str} {st : Stmt} {f : Addr} {fd : FuncData} {N ps : List Str} {sp : SpM} (F : Fun K x qual st f fd) (S : FnScope N ps (defScope st)) (len : ∀ ds m Q E, sp ds m Q E → ds.length = ps.length)
    (hbody : ∀ (cdv : Value) (A : Around) (outer : List Env) (s : Shared) (H : Hp) (ds : List D) (m : Mem) (Q : KM) (E : XM) (E' : XK), Room k (A.deeper (envOfC qual (defScope st) s.heap.objs.size f cdv)) → sp ds m Q E →
      (∀ C m' H', E C m' → RM K H' m' → Step m H m' H' → E' (.ref C) none H') →
      ∃ p, MSs (cxOf (L2.CX P w) P w K mg base N qual (defScope st) f cdv A outer s H E') (stepB m H) (defBody st) p ∧ p { nx := fun _ m' => RtM Q .non m', rt := RtM Q } (startM N ds) m) : FnM P w K mg base (L2.CX P w) (k + 1) f fd ps sp := by
  refine F.okX S (fun vs H Q E ⟨ds, m, Qm, Em, x, r, q, _⟩ => by rw [← x.length]; exact len _ _ _ _ q) fun cdv A outer s H vs Q E hr ⟨ds, m, Qm, Em, x, r, q, k1, k2⟩ => ?_
  obtain ⟨p, hp, go⟩ := hbody cdv A outer s H ds m Qm Em E hr q fun C m' H' e r' t' => k2 C m' H' e r' t'
  refine ⟨_, hp, startM N ds, m, _, ⟨ss_start N x, r, Step.refl⟩, go, ?_, ?_, ?_, ?_⟩
  · intro ρ' m' σ' H' ⟨m0, sb, q'⟩ r' t' s'
    exact k1 _ _ _ _ q' (r'.sub sb) (t'.sub sb) Rep.non
  · intro d m' v H' ⟨m0, sb, q'⟩ r' t' x'
    exact k1 _ _ _ _ q' (r'.sub sb) (t'.sub sb) x'
  · intro ρ' m' σ' H' z; exact z.elim
  · intro ρ' m' σ' H' z; exact z.elim
end
section
variable {X : Cx} {B : Bs} {E' : XK} {Em : XM} {C : Addr}
/-- what a callee lets out is let out -/
theorem passM (tk : Takes X (fun cls d _ H => E' cls d H)) (hw : ∀ C m H, Em C m → RM X.K H m → B.P m H → E' (.ref C) none H) : Passes (L2.CX X.prog X.w) X (uX X.K B Em) :=
  passes_call tk fun cls d σ H ⟨C, m, e, e2, em, r, b⟩ => by subst e e2; exact hw C m H em r b
theorem passX0 {X : Cx} {B : Bs} : Passes (L2.CX X.prog X.w) X (uX X.K B noX) := fun _ _ _ _ _ _ _ h => by
  obtain ⟨_, _, _, _, _, _, _, _, _, _, _, _, z⟩ := h
  obtain ⟨_, _, _, _, z, _⟩ := z
  exact z.elim
def wRaise (Em : XM) (C : Addr) : TSm := fun _ _ m => Em C m
/-- raise X('..'), X at C -/
theorem ms_raise {e : Expr} {pos : Pos} (hc : X.calm = true) (tk : Takes X (fun cls d _ H => E' cls d H)) (hw : ∀ C m H, Em C m → RM X.K H m → B.P m H → E' (.ref C) none H) (he : PMk X e (fun _ H Q => Q (.ref C) none H)) :
    MS X B (.Raise (some e) none pos) (wRaise Em C) := psImp (ps_raise hc tk he) fun D σ H ⟨ρ, m, E, A, q, _⟩ => hw C m H q A.r A.b

/-! ### try: f(..) except X as n -/
abbrev XS := Addr → StM → Mem → Prop
def wCallS (sp : SpM) (Es : XS) (t : TAm) : TEm := fun ρ m Q => t ρ m fun ds m1 => sp ds m1 Q fun C m2 => Es C ρ m2
variable {k : Nat} {f : Addr} {fd : FuncData} {ps : List Str} {sp : SpM} {Es : XS} {x n : Str} {e : Expr} {es : List Expr} {la : TAm} {pos p pos' np : Pos} {W : WX}
theorem mx_callS (F : FnM X.prog X.w X.K X.mg X.base (L2.CX X.prog X.w) k f fd ps sp) (hr : Room k X.A) (hm : X.mg x = some (.ref f)) (hk : PySem.W.keepIn X.K (.ref f) = true) (hb : Binds X.K fd ps []) (tk : Takes X W)
    (hw : ∀ C ρ m σ H, Es C ρ m → At X.K B σ H ρ m → W (.ref C) none σ H)
    (ha : MA X B (e :: es) la) (hg : Gl X x := by rfl) (hdb : (x == ("__debug__" : Str)) = false := by decide) (he : starEach (e :: es) X.env = (false, eval e X.env) :: starEach es X.env := by rfl) (hpl : (backTo pos (starEach es X.env)).any (·.1) = false := by rfl) :
    MX X B (.Call (.Name x p) (e :: es) [] pos) (wCallS sp Es la) := peImp (pe_callS F hr hg hm hk hb (fun σ => passAt tk σ) ha hdb he hpl) fun σ H Q ⟨ρ, m, Qm, A, q, k⟩ => by
  refine ⟨ρ, m, _, A, q, fun ds m1 vs H1 q1 r1 t1 x1 => ?_⟩
  exact ⟨ds, m1, Qm, _, x1, r1, q1, fun d m' v H' q2 r2 t2 x2 => k d m' v H' q2 r2 (t1.trans t2) x2, fun C m' H' q2 r2 t2 => hw C ρ m' σ H' q2 (A.step r2 (t1.trans t2))⟩
def wTryAs (C : Addr) (i : Nat) (tb : XS → TSm) (ts : Addr → TSm) : TSm := fun E ρ m =>
  tb (fun C' ρ' m' => C' = C ∧ ∀ a, m' a = none → ts a { nx := fun ρ2 m2 => E.nx (ρ2.set i none) m2, rt := E.rt, bk := fun ρ2 m2 => E.bk (ρ2.set i none) m2, ct := fun ρ2 m2 => E.ct (ρ2.set i none) m2 } (ρ'.set i (some (.ref a))) m') E ρ m
theorem ms_try_as {c : Value} {i : Nat} {body suite : List Stmt} {b₀ : Stmt} {tb : XS → TSm} {ts : Addr → TSm} (hs : X.stack = X.env :: X.outer) (hf : X.env.frame = some X.env.locals) (hN : X.N.Nodup) (hi : X.N[i]? = some n) (hln : X.env.kindOf n = some .local) (hc : Names X x c)
    (hx : PySem.W.exmOne X.K (.ref C) c = some true)
    (hb : ∀ (B' : Bs) (Es : XS) (W : WX) (pn : List (Addr × Obj)) (xe : Value → Shared → Prop), Takes (X.tr pn xe) W → (∀ C ρ m σ H, Es C ρ m → At X.K B' σ H ρ m → W (.ref C) none σ H) → MSs (X.tr pn xe) B' body (tb Es))
    (hsu : ∀ (B' : Bs) (a : Addr) (oe : Obj) (pn : List (Addr × Obj)), Zc (.ref C) none oe → (∃ vs, oe.data = .fields vs) → MSs (X.suite a ((a, oe) :: pn)) B' (b₀ :: suite) (ts a)) :
    MS X B (.Try body [.ExceptHandler (some (.Name x np)) (some n) (b₀ :: suite) pos'] [] [] pos) (wTryAs C i tb ts) :=
  psImp (ps_try_as (i := i) (tb := fun W D σ H => ∃ (B' : Bs) (Es : XS), (∀ C ρ m σ H, Es C ρ m → At X.K B' σ H ρ m → W (.ref C) none σ H) ∧ uS X.K B' (tb Es) D σ H)
      (ts := fun a cls d D σ H => cls = .ref C ∧ d = none ∧ ∃ B' : Bs, uS X.K B' (ts a) D σ H) hs hf hN hi hln hc takes0
      (fun W pn xe tk _ => ⟨fun pins s σ H D I ⟨B', Es, hw, h⟩ => (hb B' Es W pn xe tk hw).run pins s σ H D I h⟩)
      (fun a oe cls d pn hz hf => ⟨fun pins s σ H D I ⟨e1, e2, B', h⟩ => by subst e1 e2; exact (hsu B' a oe pn hz hf).run pins s σ H D I h⟩))
    fun D σ H ⟨ρ, m, E, A, q, n1, n2, n3, n4⟩ => by
      refine ⟨⟨fun m' H' => B.P m' H' ∧ Step m H m' H', fun _ _ _ _ a b => ⟨B.cl _ _ _ _ a.1 b, a.2.trans b⟩⟩, _, ?_, ρ, m, E, ⟨A.s, A.r, A.b, Step.refl⟩, q, n1, n2, n3, n4⟩
      intro C' ρ' m' σ' H' ⟨e1, hts⟩ A'
      subst e1
      refine ⟨true, hx, fun _ a ha => ⟨rfl, rfl, B, ρ'.set i (some (.ref a)), m', _, ⟨Ss.set Rep.ref i A'.s, A'.r, A'.b.1⟩, hts a (A'.r.out ha), ?_, ?_, ?_, ?_⟩, fun z => nomatch z⟩
      · intro ρ2 m2 σ2 H2 z r2 t2 s2
        exact n1 _ _ _ _ z r2 (A'.b.2.trans t2) (Ss.setN i s2)
      · intro d m2 v H2 z r2 t2 x2
        exact n2 _ _ _ _ z r2 (A'.b.2.trans t2) x2
      · intro ρ2 m2 σ2 H2 z r2 t2 s2
        exact n3 _ _ _ _ z r2 (A'.b.2.trans t2) (Ss.setN i s2)
      · intro ρ2 m2 σ2 H2 z r2 t2 s2
        exact n4 _ _ _ _ z r2 (A'.b.2.trans t2) (Ss.setN i s2)
/-- isinstance(e, X), e what the suite holds, of the class D at a -/
def wIsE (K : PySem.W.Frag) (C a : Addr) : RLm := fun ds m Q => match ds with
  | [.ref a', .ref C'] => a' = a ∧ ∃ b, PySem.W.kitOne K (.ref C) (.ref C') = some b ∧ Q (.bl b) m
  | [.ref a', .ty T] => a' = a ∧ ∃ b, PySem.W.kitOne K (.ref C) (.type T) = some b ∧ Q (.bl b) m
  | _ => False
theorem mc_isE {a : Addr} {oe : Obj} {pn : List (Addr × Obj)} (T : ExcC X.K C) (hz : Zc (.ref C) none oe) (hf : ∃ vs, oe.data = .fields vs) : MCall (X.suite a ((a, oe) :: pn)) (.builtin "isinstance") (wIsE X.K C a) :=
  mcall_of (call_isE T hz hf) fun ds vs H m Q Qm hx r q k => by
    unfold wIsE at q; split at q
    · obtain ⟨v, w, e, x, y⟩ := reps2 hx
      obtain ⟨rfl, b, hk, q⟩ := q
      rw [Rep.ref_iff.mp x, Rep.ref_iff.mp y] at e
      exact ⟨_, _, b, e, fun u r => by cases r; rfl, hk, k _ _ _ _ q r Step.refl Rep.bl⟩
    · obtain ⟨v, w, e, x, y⟩ := reps2 hx
      obtain ⟨rfl, b, hk, q⟩ := q
      rw [Rep.ref_iff.mp x, Rep.ty_iff.mp y] at e
      exact ⟨_, _, b, e, fun u r => by cases r; rfl, hk, k _ _ _ _ q r Step.refl Rep.bl⟩
    · exact q.elim
end
/-- what a class of errors must say -/
structure XcF (K : PySem.W.Frag) (mg : Str → Option Value) (x : Str) (C : Addr) : Prop where
  g : mg x = some (.ref C)
  q : PySem.W.excIn K C [.type "ValueError", .type "Exception", .type "BaseException", .type "object"] "ValueError.__new__" = true
  k : PySem.W.keepIn K (.ref C) = true
  t : PySem.W.typeIn K (.ref C) = some (.type "type")
  c : ExcC K C
theorem mx_exc {X : Cx} {B : Bs} {x : Str} {pos : Pos} {C : Addr} (F : XcF X.K X.mg x C) (hg : Gl X x := by rfl) (hd : (x == ("__debug__" : Str)) = false := by decide) : MX X B (.Name x pos) (wC (.ref C)) := mx_glob (v := .ref C) hg F.g rfl (fun _ => Rep.ref) hd
theorem XcF.raises {X : Cx} {x : Str} {C : Addr} (F : XcF X.K X.mg x C) : Raises X (.ref C) := raises_own F.c.hs F.t
theorem XcF.exm {K : PySem.W.Frag} {mg : Str → Option Value} {x : Str} {C D : Addr} {b : Bool} (F : XcF K mg x C) (h : PySem.W.subIn K (.ref D) (.ref C) = some b) : PySem.W.exmOne K (.ref D) (.ref C) = some b := PySem.W.exm_ref F.c.hs F.c.hd F.t h
theorem XcF.kit {K : PySem.W.Frag} {mg : Str → Option Value} {x : Str} {C D : Addr} {b : Bool} (F : XcF K mg x C) (h : PySem.W.subIn K (.ref D) (.ref C) = some b) (h0 : PySem.W.subIn K (.ref C) (.ref C) = some true) : PySem.W.kitOne K (.ref D) (.ref C) = some b := by
  unfold PySem.W.kitOne
  split
  · rename_i e
    have e : D = C := Value.ref.inj (beq_iff_eq.mp e)
    subst e
    rw [h0] at h; exact h
  · obtain ⟨cd, hc, _⟩ := PySem.W.any_some F.c.hd
    have e2 : ((PySem.W.clsIn K C).isSome && PySem.W.typeIn K (.ref C) == some (.type "type")) = true := by rw [hc, F.t] <;> rfl
    show (if ((PySem.W.clsIn K C).isSome && PySem.W.typeIn K (.ref C) == some (.type "type")) = true then PySem.W.subIn K (.ref D) (.ref C) else none) = some b
    rw [if_pos e2]; exact h
theorem kit_val {K : PySem.W.Frag} {D : Addr} (h : PySem.W.subIn K (.ref D) (.type "ValueError") = some true) : PySem.W.kitOne K (.ref D) (.type "ValueError") = some true := by
  unfold PySem.W.kitOne
  split
  · rfl
  · show (if PySem.W.kitMeta "ValueError" = true then PySem.W.subIn K (.ref D) (.type "ValueError") else none) = some true
    rw [if_pos (by decide +kernel)]; exact h
end Mm
/-! objects: fields, methods, the making of one -/
namespace Mm
open PySem L2
open PyProof.Rows (envOfC)
def putFD (f : Str) (v : D) : List (Str × D) → List (Str × D)
  | [] => [(f, v)]
  | (g, x) :: r => if g = f then (g, v) :: r else (g, x) :: putFD f v r
section
variable {K : PySem.W.Frag} {H : Hp} {f : Str}
theorem KVs.putF {d : D} {v : V} (hd : Rep K H d v) : ∀ {a : List (Str × D)} {b : List (Str × V)}, KVs K H a b → KVs K H (putFD f d a) (L2.putF f v b)
  | _, _, .nil => .cons ⟨rfl, hd⟩ .nil
  | _, _, .cons (a := p) (b := q) h r => by
    obtain ⟨p1, p2⟩ := p
    obtain ⟨q1, q2⟩ := q
    obtain ⟨e, h2⟩ := h
    dsimp only at e h2
    subst e
    unfold putFD L2.putF
    by_cases c : p1 = f
    · rw [if_pos c, if_pos c]; exact .cons ⟨rfl, hd⟩ r
    · rw [if_neg c, if_neg c]; exact .cons ⟨rfl, h2⟩ (KVs.putF hd r)
theorem KVs.look : ∀ {a : List (Str × D)} {b : List (Str × V)}, KVs K H a b → (∀ d, a.lookup f = some d → ∃ v, b.lookup f = some v ∧ Rep K H d v) ∧ (a.lookup f = none → b.lookup f = none)
  | _, _, .nil => ⟨fun d e => (nomatch e), fun _ => rfl⟩
  | _, _, .cons (a := p) (b := q) h r => by
    obtain ⟨p1, p2⟩ := p
    obtain ⟨q1, q2⟩ := q
    obtain ⟨e, h2⟩ := h
    dsimp only at e h2
    subst e
    obtain ⟨i1, i2⟩ := KVs.look r
    by_cases c : f = p1
    · have hb : (f == p1) = true := beq_iff_eq.mpr c
      simp only [List.lookup, hb]
      exact ⟨fun d e => by cases e; exact ⟨q2, rfl, h2⟩, fun e => (nomatch e)⟩
    · have hb : (f == p1) = false := beq_eq_false_iff_ne.mpr c
      simp only [List.lookup, hb]
      exact ⟨i1, i2⟩
end
/-- what a class must say: its own, and that it has none of the names of the attributes -/
structure ObK (K : PySem.W.Frag) (C : Addr) (L : List Str) : Prop where
  cl : Cls K C
  na : ∀ f ∈ L, NoAttr K C f
theorem na_nil {K : PySem.W.Frag} {C : Addr} : ∀ f ∈ ([] : List Str), NoAttr K C f := fun _ h => (nomatch h)
theorem na_cons {K : PySem.W.Frag} {C : Addr} {g : Str} {L : List Str} (h : NoAttr K C g) (r : ∀ f ∈ L, NoAttr K C f) : ∀ f ∈ g :: L, NoAttr K C f := fun f hf => by
  rcases List.mem_cons.mp hf with rfl | hf
  · exact h
  · exact r f hf
/-- a method as it stands -/
structure Dm (K : PySem.W.Frag) (C : Addr) (x : Str) (f : Addr) (fd : FuncData) (ps : List Str) : Prop where
  c : Cls K C
  b : Binds K fd ps []
  m : Meth K C x f
/-- a class as it is called -/
structure Dc (K : PySem.W.Frag) (mg : Str → Option Value) (x : Str) (C f : Addr) (fd : FuncData) (ps : List Str) : Prop where
  g : mg x = some (.ref C)
  b : Binds K fd ps []
  k : Mk K C f
section
variable {X : Cx} {B : Bs} {o e value : Expr} {es : List Expr} {f : Str} {pos pos' p apos : Pos} {pa pv : TEm} {la : TAm}
def fldAt (K : PySem.W.Frag) (f : Str) (a : Addr) (Q : KM) (m : Mem) : Prop := ∃ C fs L d, m a = some (.ins C fs) ∧ ObK K C L ∧ f ∈ L ∧ fs.lookup f = some d ∧ Q d m
def setAt (K : PySem.W.Frag) (f : Str) (a : Addr) (y : D) (n : Mem → Prop) (m : Mem) : Prop := ∃ C fs L, m a = some (.ins C fs) ∧ ObK K C L ∧ f ∈ L ∧ fs.length < 1000 ∧ n (mput m a (.ins C (putFD f y fs)))
def wFld (K : PySem.W.Frag) (f : Str) (p : TEm) : TEm := fun ρ m Q => p ρ m fun x m1 => refAt x fun a => fldAt K f a Q m1
theorem mx_fld (h : MX X B o pa) (hb : attributeBase o f X.env (eval o X.env) = eval o X.env) : MX X B (.Attribute o f pos) (wFld X.K f pa) :=
  peImp (pe_fld h hb) fun σ H Q ⟨ρ, m, Qm, A, q, k⟩ => by
    refine ⟨ρ, m, _, A, q, fun x m1 v H1 q1 r1 t1 x1 => ?_⟩
    unfold refAt at q1
    split at q1
    · obtain ⟨C, fs, L, d, e, ok, hf, l, q1⟩ := q1
      obtain ⟨u, h1, dx, xs, rfl, kv⟩ := r1 _ _ e
      obtain ⟨w, l2, rw'⟩ := kv.look.1 d l
      exact ⟨_, C, dx, xs, w, Rep.ref_iff.mp x1, h1, ok.cl, ok.na f hf, l2, k _ _ _ _ q1 r1 t1 rw'⟩
    · exact q1.elim
def wSetF (K : PySem.W.Frag) (f : Str) (pa pv : TEm) : TSm := fun E ρ m => pv ρ m fun y m1 => pa ρ m1 fun x m2 => refAt x fun a => setAt K f a y (E.nx ρ) m2
theorem ms_fld (ha : MX X B o pa) (hv : MX X B value pv) (hs : swapsWith value (some (.Attribute o f pos')) pos.line X.env = pure false) : MS X B (.Assign [.Attribute o f pos'] value pos) (wSetF X.K f pa pv) :=
  psImp (ps_fld ha hv hs) fun D σ H ⟨ρ, m, E, A, q, n, _⟩ => by
    refine ⟨ρ, m, _, A, q, fun y m1 v H1 q1 r1 t1 y1 => ?_⟩
    refine ⟨ρ, m1, _, A.step r1 t1, q1, fun x m2 w H2 q2 r2 t2 x2 => ?_⟩
    unfold refAt at q2
    split at q2
    · obtain ⟨C, fs, L, e, ok, hf, hl, q2⟩ := q2
      obtain ⟨u, h1, dx, xs, rfl, kv⟩ := r2 _ _ e
      have y2 := y1.stay (t2.tups r1)
      have r3 := r2.put (o := .ins C (putFD f y fs)) (u := .ins C dx (L2.putF f v xs)) e trivial ⟨dx, _, rfl, kv.putF y2⟩
      have t3 : Step m2 H2 (mput m2 _ (.ins C (putFD f y fs))) (upd H2 _ (.ins C dx (L2.putF f v xs))) := Step.put r2 e trivial
      have t := t1.trans (t2.trans t3)
      exact ⟨_, C, dx, xs, Rep.ref_iff.mp x2, h1, ok.cl, ok.na f hf, by rw [← kv.length]; exact hl, n _ _ _ _ q2 r3 t (A.step r3 t).s⟩
    · exact q2.elim
variable {CX : CXT} {k : Nat} {g C : Addr} {fd : FuncData} {ps : List Str} {sp : SpM} {Em : XM} {x n : Str}
/-- o.n(..), o of the class at C -/
def methAt (C : Addr) (n : Str) (a : Addr) (m : Mem) (R : Prop) : Prop := ∃ fs, m a = some (.ins C fs) ∧ fs.lookup n = none ∧ R
def wMeth (C : Addr) (n : Str) (sp : SpM) (Em : XM) (p : TEm) (t : TAm) : TEm := fun ρ m Q => p ρ m fun x m1 => refAt x fun a => methAt C n a m1 (t ρ m1 fun ds m2 => sp (.ref a :: ds) m2 Q Em)
theorem meth_go {K : PySem.W.Frag} {σ : St} {H : Hp} {Q : VK} (h : uE K B (wMeth C n sp Em pa la) σ H Q) : tMeth C n (liftSp K sp) [] (uX K B Em) (uE K B pa) (uA K B la) σ H Q := by
  obtain ⟨ρ, m, Qm, A, q, k⟩ := h
  refine ⟨ρ, m, _, A, q, fun x m1 v H1 q1 r1 t1 x1 => ?_⟩
  unfold refAt at q1
  split at q1
  · obtain ⟨fs, e, l, q1⟩ := q1
    obtain ⟨u, h1, dx, xs, rfl, kv⟩ := r1 _ _ e
    refine ⟨_, dx, xs, Rep.ref_iff.mp x1, h1, kv.look.2 l, ρ, m1, _, A.step r1 t1, q1, fun ds m2 vs H2 q2 r2 t2 x2 => ?_⟩
    show liftSp K sp (v :: (vs ++ [])) H2 Q (uX K B Em)
    rw [List.append_nil]
    have t12 := t1.trans t2
    exact ⟨_, m2, Qm, Em, Reps.cons (x1.stay (t2.tups r1)) x2, r2, q2, fun d m' v H' q3 r3 t3 x3 => k d m' v H' q3 r3 (t12.trans t3) x3, fun C m' H' q3 r3 t3 => ⟨C, m', rfl, rfl, q3, r3, B.cl _ _ _ _ A.b (t12.trans t3)⟩⟩
  · exact q1.elim
theorem mx_meth {pl : Sem Bool} (he : MX X B o pa) (c : Cls X.K C) (hm : Meth X.K C n g) (F : FnM X.prog X.w X.K X.mg X.base CX k g fd ps sp) (hr : Room k X.A) (hb : Binds X.K fd ps []) (hx : Passes CX X (uX X.K B Em)) (ha : MA X B (e :: es) la)
    (hst : starEach (e :: es) X.env = (false, eval e X.env) :: starEach es X.env := by rfl) (hpl : (backTo pos (starEach es X.env)).any (·.1) = false := by rfl)
    (ht : eval (.Call (.Attribute o n apos) (e :: es) [] pos) X.env = (do
      let ov ← eval o X.env
      standAt apos.atName
      let (f, first) ← holding [ov] (getMethod ov n pl)
      callWith pos f first (backTo pos (starEach (e :: es) X.env)) (backToKw pos (keywordEach [] X.env))) := by rfl) :
    MX X B (.Call (.Attribute o n apos) (e :: es) [] pos) (wMeth C n sp Em pa la) := peImp (pe_meth he c hm F hr hb .nil hx ha hst hpl ht) fun σ H Q h => meth_go h
theorem mx_meth0 {pl : Sem Bool} (he : MX X B o pa) (c : Cls X.K C) (hm : Meth X.K C n g) (F : FnM X.prog X.w X.K X.mg X.base CX k g fd ps sp) (hr : Room k X.A) (hb : Binds X.K fd ps []) (hx : Passes CX X (uX X.K B Em))
    (ht : eval (.Call (.Attribute o n apos) [] [] pos) X.env = (do
      let ov ← eval o X.env
      standAt apos.atName
      let (f, first) ← holding [ov] (getMethod ov n pl)
      callWith pos f first (backTo pos (starEach [] X.env)) (backToKw pos (keywordEach [] X.env))) := by rfl) :
    MX X B (.Call (.Attribute o n apos) [] [] pos) (wMeth C n sp Em pa wNil) := peImp (pe_meth0 (ta := uE X.K B pa) he c hm F hr hb .nil hx ht) fun σ H Q h => by
  obtain ⟨ρ, m, Qm, A, q, k⟩ := h
  refine ⟨ρ, m, _, A, q, fun x m1 v H1 q1 r1 t1 x1 => ?_⟩
  unfold refAt at q1
  split at q1
  · obtain ⟨fs, e, l, q1⟩ := q1
    obtain ⟨u, h1, dx, xs, rfl, kv⟩ := r1 _ _ e
    refine ⟨_, dx, xs, Rep.ref_iff.mp x1, h1, kv.look.2 l, ?_⟩
    exact ⟨_, m1, Qm, Em, Reps.cons x1 Reps.nil, r1, q1, fun d m' v H' q3 r3 t3 x3 => k d m' v H' q3 r3 (t1.trans t3) x3, fun C m' H' q3 r3 t3 => ⟨C, m', rfl, rfl, q3, r3, B.cl _ _ _ _ A.b (t1.trans t3)⟩⟩
  · exact q1.elim
/-- C(..) -/
def wMake (C : Addr) (sp : SpM) (Em : XM) (t : TAm) : TEm := fun ρ m Q => t ρ m fun ds m1 => ∀ p, m1 p = none → sp (.ref p :: ds) (mput m1 p (.ins C [])) (fun d m2 => d = .non ∧ Q (.ref p) m2) Em
theorem make_new {K : PySem.W.Frag} {m : Mem} {H : Hp} (r : RM K H m) {x dx : Addr} (hx : H x = none) (hdx : H dx = none) (ne : dx ≠ x) :
    m x = none ∧ RM K (upd (upd H dx (.own x)) x (.ins C dx [])) (mput m x (.ins C [])) ∧ Step m H (mput m x (.ins C [])) (upd (upd H dx (.own x)) x (.ins C dx [])) := by
  have r1 : RM K (upd H dx (.own x)) m := r.hid hdx
  have hx1 : (upd H dx (.own x)) x = none := by rw [upd_ne ne.symm]; exact hx
  exact ⟨r.out hx, r1.new hx1 ⟨dx, [], rfl, .nil⟩, (Step.hid r hdx).trans (Step.new r1 hx1)⟩
theorem mx_make (M : Mk X.K C g) (F : FnM X.prog X.w X.K X.mg X.base CX k g fd ps sp) (hr : Room (k + 1) X.A) (hm : X.mg x = some (.ref C)) (hb : Binds X.K fd ps []) (hx : Passes CX X (uX X.K B Em))
    (ha : MA X B (e :: es) la) (hg : Gl X x := by rfl) (hdb : (x == ("__debug__" : Str)) = false := by decide) (he : starEach (e :: es) X.env = (false, eval e X.env) :: starEach es X.env := by rfl) (hpl : (backTo pos (starEach es X.env)).any (·.1) = false := by rfl) :
    MX X B (.Call (.Name x p) (e :: es) [] pos) (wMake C sp Em la) := peImp (pe_make M F hr hg hm hb .nil hx ha hdb he hpl) fun σ H Q ⟨ρ, m, Qm, A, q, k⟩ => by
  refine ⟨ρ, m, _, A, q, fun ds m1 vs H1 q1 r1 t1 x1 => ?_⟩
  intro a dx ha hdx ne
  obtain ⟨ma, r2, t2⟩ := make_new (C := C) r1 ha hdx ne
  rw [List.append_nil]
  have t12 := t1.trans t2
  exact ⟨_, _, _, Em, Reps.cons Rep.ref (x1.stay (t2.tups r1)), r2, q1 a ma, fun d m' v H' ⟨e, q2⟩ r3 t3 x3 => by subst e; exact ⟨Rep.non_iff.mp x3, k _ _ _ _ q2 r3 (t12.trans t3) Rep.ref⟩,
    fun C m' H' q2 r3 t3 => ⟨C, m', rfl, rfl, q2, r3, B.cl _ _ _ _ A.b (t12.trans t3)⟩⟩
end
/-! ### the same within a try -/
section
variable {X : Cx} {B : Bs} {o e : Expr} {es : List Expr} {pos p apos : Pos} {pa : TEm} {la : TAm} {k : Nat} {g C : Addr} {fd : FuncData} {ps : List Str} {sp : SpM} {x n : Str} {W : WX} {Es : XS}
theorem run_makeS {CX : CXT} {sp : Sp} {E : St → XK} {pins : List (Addr × Obj)} {σ : St} {H : Hp} {s : Shared} {Q : VK} {us : List Value} {vs : List V} (M : Mk X.K C g) (F : FnOk X.prog X.w X.K X.mg X.base CX k g fd ps sp) (hr : Room (k + 1) X.A) (hb : Binds X.K fd ps [])
    (hx : PassesAt CX X σ (E σ)) (I : Inv X pins σ H s) (r : Vals vs us)
    (h : ∀ x dx, H x = none → H dx = none → dx ≠ x → sp (.ref x :: vs) (upd (upd H dx (.own x)) x (.ins C dx [])) (fun v H2 => v = .non ∧ Q (.ref x) H2) (E σ)) :
    wpAny (model X.prog X.w) X.A (call (.ref C) us) (EP X pins σ Q) X.xe s := by
  have hq := h (s.heap.objs.size + 1) s.heap.objs.size (I.hok.fresh (Nat.le_succ _)) (I.hok.fresh (Nat.le_refl _)) (Nat.ne_of_lt (Nat.lt_succ_self _))
  have I2 := Inv.made (C := C) I
  have r2 : Vals (V.ref (s.heap.objs.size + 1) :: vs) (Value.ref (s.heap.objs.size + 1) :: us) := .cons rfl r
  have hl : (Value.ref (s.heap.objs.size + 1) :: us).length = ps.length := by
    have e := r2.length
    rw [F.len _ _ _ _ hq] at e
    exact e.symm
  have b := hb _ (Value.ref (s.heap.objs.size + 1) :: us) I2.kIn (by rw [List.append_nil]; exact hl)
  rw [List.append_nil] at b
  refine wpAny_call (make_map (f := g) I.kIn M.makes M.init (beq_iff_eq.mp M.fn) (codeAny_mono (F.run _ X.stack _ _ ⟨Value.ref (s.heap.objs.size + 1) :: us, []⟩ (Value.ref (s.heap.objs.size + 1) :: us) _ _ (E σ) (hr.make C us [])
    (I2.env0.make C us []) b r2 hq) fun r s' hq' => ?_))
  cases r with
  | error e => exact hx pins _ _ e s' I2 hq'
  | ok fl =>
    cases fl with
    | ret u =>
      obtain ⟨v, H', I3, rv, ev, q3⟩ := I2.after hq'
      subst ev
      exact ⟨rv, ⟨V.ref (s.heap.objs.size + 1), H', I3, rfl, q3⟩⟩
    | next => exact False.elim hq'
    | brk => exact False.elim hq'
    | cont => exact False.elim hq'
def tMakeS (C : Addr) (sp : Sp) (E : St → XK) (t : TA) : TE := fun σ H Q => t σ H fun vs H1 => ∀ x dx, H1 x = none → H1 dx = none → dx ≠ x →
  sp (.ref x :: vs) (upd (upd H1 dx (.own x)) x (.ins C dx [])) (fun v H2 => v = .non ∧ Q (.ref x) H2) (E σ)
theorem pe_makeS {CX : CXT} {sp : Sp} {E : St → XK} {t : TA} (M : Mk X.K C g) (F : FnOk X.prog X.w X.K X.mg X.base CX k g fd ps sp) (hr : Room (k + 1) X.A) (hg : Gl X x) (hm : X.mg x = some (.ref C)) (hb : Binds X.K fd ps []) (hx : ∀ σ, PassesAt CX X σ (E σ))
    (ha : PA X (e :: es) t) (hdb : (x == ("__debug__" : Str)) = false := by decide) (he : starEach (e :: es) X.env = (false, eval e X.env) :: starEach es X.env := by rfl) (hpl : (backTo pos (starEach es X.env)).any (·.1) = false := by rfl) :
    PE X (.Call (.Name x p) (e :: es) [] pos) (tMakeS C sp E t) := by
  refine ⟨fun pins s σ H Q I h => ?_⟩
  refine wpAny_Call_Name_kw (ld_glob I hg hm ?_ hdb)
  refine PySem.W.callWith_K (h₀ := X.base) I.ok.mod.kin M.kp (thn (ha.run pos pins s σ H _ I h) fun us s1 ⟨vs, H1, I1, r, q⟩ => ⟨I1.kIn, ?_⟩) he hpl
  exact run_makeS M F hr hb (hx σ) I1 r q
def wMakeS (C : Addr) (sp : SpM) (Es : XS) (t : TAm) : TEm := fun ρ m Q => t ρ m fun ds m1 => ∀ p, m1 p = none → sp (.ref p :: ds) (mput m1 p (.ins C [])) (fun d m2 => d = .non ∧ Q (.ref p) m2) fun C m2 => Es C ρ m2
theorem mx_makeS (M : Mk X.K C g) (F : FnM X.prog X.w X.K X.mg X.base (L2.CX X.prog X.w) k g fd ps sp) (hr : Room (k + 1) X.A) (hm : X.mg x = some (.ref C)) (hb : Binds X.K fd ps []) (tk : Takes X W)
    (hw : ∀ C ρ m σ H, Es C ρ m → At X.K B σ H ρ m → W (.ref C) none σ H)
    (ha : MA X B (e :: es) la) (hg : Gl X x := by rfl) (hdb : (x == ("__debug__" : Str)) = false := by decide) (he : starEach (e :: es) X.env = (false, eval e X.env) :: starEach es X.env := by rfl) (hpl : (backTo pos (starEach es X.env)).any (·.1) = false := by rfl) :
    MX X B (.Call (.Name x p) (e :: es) [] pos) (wMakeS C sp Es la) := peImp (pe_makeS M F hr hg hm hb (fun σ => passAt tk σ) ha hdb he hpl) fun σ H Q ⟨ρ, m, Qm, A, q, k⟩ => by
  refine ⟨ρ, m, _, A, q, fun ds m1 vs H1 q1 r1 t1 x1 => ?_⟩
  intro a dx ha hdx ne
  obtain ⟨ma, r2, t2⟩ := make_new (C := C) r1 ha hdx ne
  have t12 := t1.trans t2
  exact ⟨_, _, _, _, Reps.cons Rep.ref (x1.stay (t2.tups r1)), r2, q1 a ma, fun d m' v H' ⟨e, q2⟩ r3 t3 x3 => by subst e; exact ⟨Rep.non_iff.mp x3, k _ _ _ _ q2 r3 (t12.trans t3) Rep.ref⟩,
    fun C m' H' q2 r3 t3 => hw C ρ m' σ H' q2 (A.step r3 (t12.trans t3))⟩
def tMethS (C : Addr) (m : Str) (sp : Sp) (E : St → XK) (ta : TE) (t : TA) : TE := fun σ H Q => ta σ H fun x H1 => ∃ a dx fs, x = .ref a ∧ H1 a = some (.ins C dx fs) ∧ fs.lookup m = none ∧ t σ H1 fun vs H2 => sp (x :: vs) H2 Q (E σ)
theorem pe_methS0 {CX : CXT} {sp : Sp} {E : St → XK} {ta : TE} {pl : Sem Bool} (he : PE X o ta) (c : Cls X.K C) (hm : Meth X.K C n g) (F : FnOk X.prog X.w X.K X.mg X.base CX k g fd ps sp) (hr : Room k X.A) (hb : Binds X.K fd ps []) (hx : ∀ σ, PassesAt CX X σ (E σ))
    (ht : eval (.Call (.Attribute o n apos) [] [] pos) X.env = (do
      let ov ← eval o X.env
      standAt apos.atName
      let (f, first) ← holding [ov] (getMethod ov n pl)
      callWith pos f first (backTo pos (starEach [] X.env)) (backToKw pos (keywordEach [] X.env))) := by rfl) :
    PE X (.Call (.Attribute o n apos) [] [] pos) (tMethS C n sp E ta tNil) := by
  refine ⟨fun pins s σ H Q I h => ?_⟩
  refine PySem.W.methodCall_KW (pl := pl) (thn (he.run pins s σ H _ I h) fun u s1 ⟨x, H1, I1, rx, a, dx, fs, ex, ea, l, q⟩ => ?_) ht
  subst ex
  obtain rfl : u = Value.ref a := rx
  refine getmeth_ok I1 ea c hm l ?_
  exact PySem.W.callWith_K0 (first := [.ref a]) I1.kIn hm.kp (run_fnS (us := [.ref a]) (vs := [.ref a]) F hr hb (hx σ) I1 (.cons rfl .nil) q)
def wMethS (C : Addr) (n : Str) (sp : SpM) (Es : XS) (p : TEm) (t : TAm) : TEm := fun ρ m Q => p ρ m fun x m1 => refAt x fun a => methAt C n a m1 (t ρ m1 fun ds m2 => sp (.ref a :: ds) m2 Q fun C m3 => Es C ρ m3)
theorem mx_methS0 {pl : Sem Bool} (he : MX X B o pa) (c : Cls X.K C) (hm : Meth X.K C n g) (F : FnM X.prog X.w X.K X.mg X.base (L2.CX X.prog X.w) k g fd ps sp) (hr : Room k X.A) (hb : Binds X.K fd ps []) (tk : Takes X W)
    (hw : ∀ C ρ m σ H, Es C ρ m → At X.K B σ H ρ m → W (.ref C) none σ H)
    (ht : eval (.Call (.Attribute o n apos) [] [] pos) X.env = (do
      let ov ← eval o X.env
      standAt apos.atName
      let (f, first) ← holding [ov] (getMethod ov n pl)
      callWith pos f first (backTo pos (starEach [] X.env)) (backToKw pos (keywordEach [] X.env))) := by rfl) :
    MX X B (.Call (.Attribute o n apos) [] [] pos) (wMethS C n sp Es pa wNil) := peImp (pe_methS0 (ta := uE X.K B pa) he c hm F hr hb (fun σ => passAt tk σ) ht) fun σ H Q h => by
  obtain ⟨ρ, m, Qm, A, q, k⟩ := h
  refine ⟨ρ, m, _, A, q, fun x m1 v H1 q1 r1 t1 x1 => ?_⟩
  unfold refAt at q1
  split at q1
  · obtain ⟨fs, e, l, q1⟩ := q1
    obtain ⟨u, h1, dx, xs, rfl, kv⟩ := r1 _ _ e
    refine ⟨_, dx, xs, Rep.ref_iff.mp x1, h1, kv.look.2 l, ?_⟩
    exact ⟨_, m1, Qm, _, Reps.cons x1 Reps.nil, r1, q1, fun d m' v H' q3 r3 t3 x3 => k d m' v H' q3 r3 (t1.trans t3) x3, fun C m' H' q3 r3 t3 => hw C ρ m' σ H' q3 (A.step r3 (t1.trans t3))⟩
  · exact q1.elim
end
section
variable {E : EndsM} {ρ : StM} {m : Mem} {Q : KM} {pa pv : TEm} {la : TAm} {K : PySem.W.Frag} {f : Str}
theorem i_fld {a C : Addr} {fs : List (Str × D)} {L : List Str} {d : D} (e : m a = some (.ins C fs)) (ok : ObK K C L) (hf : f ∈ L) (l : fs.lookup f = some d) (q : Q d m) : fldAt K f a Q m := ⟨C, fs, L, d, e, ok, hf, l, q⟩
theorem i_wfld (h : pa ρ m fun x m1 => refAt x fun a => fldAt K f a Q m1) : wFld K f pa ρ m Q := h
theorem i_wsetF (h : pv ρ m fun y m1 => pa ρ m1 fun x m2 => refAt x fun a => setAt K f a y (E.nx ρ) m2) : wSetF K f pa pv E ρ m := h
theorem i_setF {a C : Addr} {fs : List (Str × D)} {L : List Str} {R : Mem → Prop} {y : D} (e : m a = some (.ins C fs)) (ok : ObK K C L) (hf : f ∈ L) (l : fs.length < 1000) (q : R (mput m a (.ins C (putFD f y fs)))) : setAt K f a y R m := ⟨C, fs, L, e, ok, hf, l, q⟩
theorem i_wmeth {C : Addr} {n : Str} {sp : SpM} {Em : XM} (h : pa ρ m fun x m1 => refAt x fun a => methAt C n a m1 (la ρ m1 fun ds m2 => sp (.ref a :: ds) m2 Q Em)) : wMeth C n sp Em pa la ρ m Q := h
theorem i_meth {a C : Addr} {fs : List (Str × D)} {n : Str} {R : Prop} (e : m a = some (.ins C fs)) (l : fs.lookup n = none) (q : R) : methAt C n a m R := ⟨fs, e, l, q⟩
theorem i_wmake {C : Addr} {sp : SpM} {Em : XM} (h : la ρ m fun ds m1 => ∀ p, m1 p = none → sp (.ref p :: ds) (mput m1 p (.ins C [])) (fun d m2 => d = .non ∧ Q (.ref p) m2) Em) : wMake C sp Em la ρ m Q := h
theorem i_wmakeS {C : Addr} {sp : SpM} {Es : XS} (h : la ρ m fun ds m1 => ∀ p, m1 p = none → sp (.ref p :: ds) (mput m1 p (.ins C [])) (fun d m2 => d = .non ∧ Q (.ref p) m2) fun C m2 => Es C ρ m2) : wMakeS C sp Es la ρ m Q := h
theorem i_wmethS {C : Addr} {n : Str} {sp : SpM} {Es : XS} (h : pa ρ m fun x m1 => refAt x fun a => methAt C n a m1 (la ρ m1 fun ds m2 => sp (.ref a :: ds) m2 Q fun C m3 => Es C ρ m3)) : wMethS C n sp Es pa la ρ m Q := h
theorem i_wcallS {sp : SpM} {Es : XS} (h : la ρ m fun ds m1 => sp ds m1 Q fun C m2 => Es C ρ m2) : wCallS sp Es la ρ m Q := h
theorem i_try {C : Addr} {i : Nat} {tb : XS → TSm} {ts : Addr → TSm} (h : tb (fun C' ρ' m' => C' = C ∧ ∀ a, m' a = none → ts a { nx := fun ρ2 m2 => E.nx (ρ2.set i none) m2, rt := E.rt, bk := fun ρ2 m2 => E.bk (ρ2.set i none) m2, ct := fun ρ2 m2 => E.ct (ρ2.set i none) m2 } (ρ'.set i (some (.ref a))) m') E ρ m) : wTryAs C i tb ts E ρ m := h
end
end Mm
namespace Mm
open PySem L2
/-! ### lists and dicts made empty; a key taken out; an item of a list set anew -/
section
variable {X : Cx} {B : Bs} {o e i : Expr} {pos apos cpos : Pos} {pa pb : TEm}
def wLClr (pa : TEm) : TEm := fun ρ m Q => pa ρ m fun x m1 => refAt x fun a => ∃ ds, m1 a = some (.lst ds) ∧ Q .non (mput m1 a (.lst []))
theorem mx_lclear (ho : MX X B o pa) (hbase : attributeBase o "clear" X.env (eval o X.env) = eval o X.env := by rfl) (hline : (apos.endLine == cpos.line) = true := by rfl) :
    MX X B (.Call (.Attribute o "clear" apos) [] [] cpos) (wLClr pa) :=
  peImp (pe_bm0 PySem.F.plainAttrs_list PySem.F.slot_list_clear PySem.F.type_list_clear mt_clear ho hbase hline) fun σ H Q ⟨ρ, m, Qm, A, q, k⟩ => by
    refine ⟨ρ, m, _, A, q, fun x m1 v H1 q1 r1 t1 x1 => ?_⟩
    unfold refAt at q1
    split at q1
    · obtain ⟨ds, e, q1⟩ := q1
      obtain ⟨u, h1, xs, rfl, rr⟩ := r1 _ _ e
      rw [Rep.ref_iff.mp x1]
      refine ⟨list_ty r1 ⟨ds, rd_of e trivial⟩, _, xs, rfl, rfl, h1, ?_⟩
      exact k _ _ _ _ q1 (r1.put e trivial ⟨_, rfl, Reps.nil⟩) (t1.trans (Step.put r1 e trivial)) Rep.non
    · exact q1.elim
def wDClr (pa : TEm) : TEm := fun ρ m Q => pa ρ m fun x m1 => refAt x fun a => ∃ kvs, m1 a = some (.dK kvs) ∧ Q .non (mput m1 a (.dK []))
theorem mx_dclear (ho : MX X B o pa) (hbase : attributeBase o "clear" X.env (eval o X.env) = eval o X.env := by rfl) (hline : (apos.endLine == cpos.line) = true := by rfl) :
    MX X B (.Call (.Attribute o "clear" apos) [] [] cpos) (wDClr pa) :=
  peImp (pe_dclear ho hbase hline) fun σ H Q ⟨ρ, m, Qm, A, q, k⟩ => by
    refine ⟨ρ, m, _, A, q, fun x m1 v H1 q1 r1 t1 x1 => ?_⟩
    unfold refAt at q1
    split at q1
    · obtain ⟨ds, e, q1⟩ := q1
      obtain ⟨u, h1, xs, rfl, rr⟩ := r1 _ _ e
      rw [Rep.ref_iff.mp x1]
      refine ⟨?_, _, xs, rfl, rfl, h1, ?_⟩
      · exact .inr (.inr (.inl ⟨rfl, .inl ⟨xs, h1⟩⟩))
      exact k _ _ _ _ q1 (r1.put e trivial ⟨_, rfl, .nil⟩) (t1.trans (Step.put r1 e trivial)) Rep.non
    · exact q1.elim
def dropKD (kvs : List (Key × D)) (k : Key) : List (Key × D) := kvs.filter fun kv => decide (kv.1 ≠ k)
theorem KVs.drop {K : PySem.W.Frag} {H : Hp} {k : Key} : ∀ {a : List (Key × D)} {b : List (Key × V)}, KVs K H a b → KVs K H (dropKD a k) (dropK b k)
  | _, _, .nil => .nil
  | _, _, .cons (a := p) (b := q) h r => by
    have e : (p.1 = k) = (q.1 = k) := by rw [h.1]
    unfold dropKD dropK
    rw [List.filter_cons, List.filter_cons]
    by_cases c : p.1 = k
    · have c' : q.1 = k := e ▸ c
      simp only [c, c', ne_eq, not_true_eq_false, decide_false, Bool.false_eq_true, if_false]
      exact KVs.drop r
    · have c' : ¬ q.1 = k := e ▸ c
      simp only [c, c', ne_eq, not_false_eq_true, decide_true, if_true]
      exact .cons h (KVs.drop r)
/-- d.pop(k), k is there -/
def wDPop (pa pb : TEm) : TEm := fun ρ m Q => pa ρ m fun x m1 => refAt x fun a => (∃ kvs, rdM m1 a = some (.dK kvs)) ∧ pb ρ m1 fun y m2 => ∃ kvs k d, m2 a = some (.dK kvs) ∧ y = kD k ∧ valD kvs k = some d ∧ Q d (mput m2 a (.dK (dropKD kvs k)))
theorem mx_dpop (ho : MX X B o pa) (he : MX X B e pb) (M : M1 X o "pop" apos e cpos := by exact ⟨rfl, rfl, rfl, rfl⟩) : MX X B (.Call (.Attribute o "pop" apos) [e] [] cpos) (wDPop pa pb) :=
  peImp (pe_dpop1 ho he M) fun σ H Q ⟨ρ, m, Qm, A, q, k⟩ => by
    refine ⟨ρ, m, _, A, q, fun x m1 v H1 q1 r1 t1 x1 => ?_⟩
    unfold refAt at q1
    split at q1
    · obtain ⟨⟨kvs0, e0⟩, q1⟩ := q1
      refine ⟨_, Rep.ref_iff.mp x1, ?_, ρ, m1, _, A.step r1 t1, q1, fun y m2 w H2 q2 r2 t2 x2 => ?_⟩
      · obtain ⟨u, h1, h2⟩ := rd_go r1 e0
        obtain ⟨xs, rfl, _⟩ := h2
        exact .inl ⟨xs, h1⟩
      · obtain ⟨kvs, kk, d, e, rfl, hv, q2⟩ := q2
        obtain ⟨u, h1, xs, rfl, rr⟩ := r2 _ _ e
        obtain ⟨z, hz, xz⟩ := rr.val.1 _ hv
        have st := Step.put (o := .dK (dropKD kvs kk)) (u := .dK (dropK xs kk)) r2 e trivial
        have rm := r2.put (o := .dK (dropKD kvs kk)) (u := .dK (dropK xs kk)) e trivial ⟨_, rfl, rr.drop⟩
        exact ⟨xs, kk, z, h1, kD_rep x2, hz, k _ _ _ _ q2 rm (t1.trans (t2.trans st)) (xz.stay (st.tups r2))⟩
    · exact q1.elim
/-- o[i] = .., o a list -/
def gLputB (pa pb : TEm) : TGm := fun d ρ m Q => pa ρ m fun x m1 => refAt x fun a => pb ρ m1 fun y m2 => ∃ (k : Int) (j : Nat) (xs : List D), y = .int k ∧ m2 a = some (.lst xs) ∧ ixN xs.length k = some j ∧ Q ρ (mput m2 a (.lst (xs.set j d)))
theorem mg_lputB (ho : MX X B o pa) (hi : MX X B i pb)
    (ha : ∀ v, assign (.Subscript o i pos) X.env v = (do
      let ov ← holding [v] (eval o X.env)
      let iv ← holding [v, ov] (eval i X.env)
      standAt pos
      holding [v, ov, iv] (setItem ov iv v)
      release [v, ov, iv] []) := by intro _; rfl) : MG X B (.Subscript o i pos) (gLputB pa pb) :=
  pgImp (pg_sub ho hi set_list ha) fun v σ H Q ⟨d, ρ, m, Qm, xd, A, q, n⟩ => by
    refine ⟨ρ, m, _, A, q, fun x m1 w H1 q1 r1 t1 x1 => ?_⟩
    unfold refAt at q1
    split at q1
    · refine ⟨ρ, m1, _, A.step r1 t1, q1, fun y m2 u H2 q2 r2 t2 x2 => ?_⟩
      obtain ⟨k, j, xs, rfl, e1, hj, q2⟩ := q2
      obtain ⟨uo, h1, vs, rfl, rr⟩ := r2 _ _ e1
      have t12 := t1.trans t2
      have st := Step.put (o := .lst (xs.set j d)) (u := .lst (vs.set j v)) r2 e1 trivial
      have rm := r2.put (o := .lst (xs.set j d)) (u := .lst (vs.set j v)) e1 trivial ⟨_, rfl, Reps.set (xd.stay (t12.tups A.r)) j rr⟩
      exact ⟨_, vs, k, j, Rep.ref_iff.mp x1, Rep.int_iff.mp x2, h1, by rw [← rr.length]; exact hj, n _ _ _ _ q2 rm (t12.trans st) (A.step rm (t12.trans st)).s⟩
    · exact q1.elim
theorem mx_fldC {K' : PySem.W.Frag} {f : Str} (hk : X.K = K') (h : MX X B o pa) (hb : attributeBase o f X.env (eval o X.env) = eval o X.env) : MX X B (.Attribute o f pos) (wFld K' f pa) := by
  subst hk; exact mx_fld h hb
/-- the scope of the comprehension that a statement sets or hands back -/
def scO : Stmt → Scope
  | .Assign _ (.ListComp _ _ sc _) _ => sc
  | .Return (some (.ListComp _ _ sc _)) _ => sc
  | s => defScope s
theorem i_yes {ρ : StM} {m : Mem} {Q : Bool → Mem → Prop} (h : Q true m) : wYes ρ m Q := h
/-- what comes behind a statement stays hidden while it is walked -/
theorem i_stO {t : TSm} {E : EndsM} {ρ : StM} {m : Mem} (R : StM → Mem → Prop) (hk : ∀ ρ' m', R ρ' m' → E.nx ρ' m') (h : ∀ N : StM → Mem → Prop, (∀ ρ' m', R ρ' m' → N ρ' m') → t { nx := N, rt := E.rt, bk := E.bk, ct := E.ct } ρ m) : t E ρ m := h E.nx hk
theorem nx_mkB {n : StM → Mem → Prop} {rt : KM} {bk ct : StM → Mem → Prop} {ρ : StM} {m : Mem} (h : n ρ m) : EndsM.nx ⟨n, rt, bk, ct⟩ ρ m := h
/-- as it stands within a def of the scope o -/
def scR (o sc : Scope) : Scope := { sc with names := sc.names.map fun (n, k) => if (k == .free && o.kind == .function && o.names.lookup n == some .cell) then (n, .cell) else (n, k) }
end
end Mm
namespace Mm
open PySem L2
/-! ### == of two lists that are alike: lists, tuples and dicts within one another -/
def EqY (K : PySem.W.Frag) (H : Hp) : Nat → V → V → Prop
  | 0 => fun _ _ => False
  | n + 1 => fun x y => (x = y ∧ flatB x = true) ∨ (∃ a, x = .ref a ∧ y = .ref a) ∨ EqR K H (EqY K H n) x y ∨ ∃ a b xs ys, x = .ref a ∧ y = .ref b ∧ SqT K H a xs ∧ SqT K H b ys ∧ Paired (EqY K H n) xs ys
section
variable {X : Cx} {pins : List (Addr × Obj)} {σ : St} {H : Hp} {s : Shared}
theorem eqY_tup (I : Inv X pins σ H s) {A : Around} {F : V → V → Prop} (hu : A.units < cLine) (ih : ∀ x y v u, F x y → RelV x v → RelV y u → SeqAt.EqP X.prog X.w A.in1 s v u true) {a b : Addr} {xs ys : List V} (ha : SqT X.K H a xs) (hb : SqT X.K H b ys) (hp : Paired F xs ys)
    (E Q : Value → Shared → Prop) (q : Q (.bool true) s) : wpAny (model X.prog X.w) A (richCompare .Eq (.ref a) (.ref b)) Q E s := by
  obtain ⟨us, r1, p1, _⟩ := I.tuple ha
  obtain ⟨ws, r2, p2, _⟩ := I.tuple hb
  have hsz : us.length = ws.length := by rw [← r1.length, ← r2.length]; exact Paired.length hp
  refine SeqAt.rcIn_tuples (e := fun _ => true) p1 p2 hu (fun j h1 h2 => ?_) ?_
  · have k := items_run ih hp r1 r2 j (by simpa using h1) (by simpa using h2)
    show SeqAt.EqP _ _ _ _ _ _ _
    simpa using k
  · rw [show ((List.range (min us.toArray.size ws.toArray.size)).all (fun _ => true) && us.toArray.size == ws.toArray.size) = true by simp [hsz]]
    exact q
theorem eqY_run (I : Inv X pins σ H s) : ∀ (n : Nat) (A : Around), A.units + n < cLine → ∀ (x y : V) (v u : Value), EqY X.K H n x y → RelV x v → RelV y u → SeqAt.EqP X.prog X.w A s v u true
  | 0, _, _, _, _, _, _, h, _, _ => (show False from h).elim
  | n + 1, A, hu, x, y, v, u, h, rx, ry => by
    have ih := eqY_run I n A.in1 (by show A.units + 1 + n < cLine; omega)
    rcases h with ⟨rfl, f⟩ | ⟨a, rfl, rfl⟩ | h | ⟨a, b, xs, ys, rfl, rfl, ha, hb, hp⟩
    · exact (eqAt_same rx ry f).eqP
    · cases (show v = Value.ref a from rx)
      cases (show u = Value.ref a from ry)
      exact (SeqAt.EqAt.same _).eqP
    · have step := eqR_run I (A := A) (by omega) ih h rx ry
      obtain ⟨a, b, rfl, rfl⟩ : ∃ a b, x = .ref a ∧ y = .ref b := by
        rcases h with ⟨a, b, _, _, e1, e2, _⟩ | ⟨a, b, _, _, e1, e2, _⟩
        · exact ⟨a, b, e1, e2⟩
        · exact ⟨a, b, e1, e2⟩
      cases (show v = Value.ref a from rx)
      cases (show u = Value.ref b from ry)
      by_cases e : a = b
      · subst e
        exact (SeqAt.EqAt.same _).eqP
      · exact SeqAt.eqP_refs e step
    · cases (show v = Value.ref a from rx)
      cases (show u = Value.ref b from ry)
      by_cases e : a = b
      · subst e
        exact (SeqAt.EqAt.same _).eqP
      · exact SeqAt.eqP_refs e (eqY_tup I (by omega) ih ha hb hp)
end
section
variable {X : Cx}
def rEqY (K : PySem.W.Frag) : R2 := fun x y H Q => ∃ n, n ≤ 60 ∧ EqR K H (EqY K H n) x y ∧ Q (.bl true) H
theorem op_eqY (hu : X.A.units + 64 < cLine) : OpR X (compareOp .Eq) (rEqY X.K) := by
  intro pins s σ H x y v u Q I rx ry h
  obtain ⟨n, hn, h, q⟩ := h
  exact eqR_run I (A := X.A) (by omega) (eqY_run I n X.A.in1 (by show X.A.units + 1 + n < cLine; omega)) h rx ry _ _ ⟨.bl true, H, I, rfl, q⟩
/-- alike, of nesting below n -/
def SameY (m : Mem) : Nat → D → D → Prop
  | 0 => fun _ _ => False
  | n + 1 => fun x y => scD x y = some true ∨ (∃ ds es, x = .tup ds ∧ y = .tup es ∧ Paired (SameY m n) ds es) ∨
      (∃ a b ds es, x = .ref a ∧ y = .ref b ∧ rdM m a = some (.lst ds) ∧ rdM m b = some (.lst es) ∧ Paired (SameY m n) ds es) ∨
      ∃ a b ks ls, x = .ref a ∧ y = .ref b ∧ m a = some (.dK ks) ∧ m b = some (.dK ls) ∧ ks.length = ls.length ∧ ∀ p ∈ ks, ∃ u, valD ls p.1 = some u ∧ SameY m n p.2 u
theorem sc_true {K : PySem.W.Frag} {H : Hp} {x y : D} {v w : V} (hx : Rep K H x v) (hy : Rep K H y w) (h : scD x y = some true) : v = w ∧ flatB v = true := by
  obtain ⟨z1, z2⟩ := scD_of hx hy h
  have e := of_decide_eq_true z2
  subst e
  refine ⟨rfl, ?_⟩
  unfold scD at h
  split at h
  · rw [Rep.int_iff.mp hx]; rfl
  · rw [Rep.str_iff.mp hx]; rfl
  · rw [Rep.bl_iff.mp hx]; rfl
  · rw [Rep.non_iff.mp hx]; rfl
  · cases h
theorem paired_rep {K : PySem.W.Frag} {H : Hp} {R : D → D → Prop} {S : V → V → Prop} (f : ∀ x y v w, R x y → Rep K H x v → Rep K H y w → S v w) : ∀ {ds es : List D} {vs ws : List V}, Paired R ds es → Reps K H ds vs → Reps K H es ws → Paired S vs ws
  | _, _, _, _, .nil, h1, h2 => by rw [Reps.nil_iff.mp h1, Reps.nil_iff.mp h2]; exact .nil
  | _, _, _, _, .cons h t, h1, h2 => by
    obtain ⟨v, vs, rfl, x1, y1⟩ := Reps.cons_iff.mp h1
    obtain ⟨w, ws, rfl, x2, y2⟩ := Reps.cons_iff.mp h2
    exact .cons (f _ _ _ _ h x1 x2) (paired_rep f t y1 y2)
theorem dicts_rep {K : PySem.W.Frag} {H : Hp} {R : D → D → Prop} {S : V → V → Prop} (f : ∀ x y v w, R x y → Rep K H x v → Rep K H y w → S v w) {ls : List (Key × D)} {lv : List (Key × V)} (h2 : KVs K H ls lv) : ∀ {ks : List (Key × D)} {kv : List (Key × V)}, KVs K H ks kv → (∀ p ∈ ks, ∃ u, valD ls p.1 = some u ∧ R p.2 u) → ∀ p ∈ kv, ∃ u, valV lv p.1 = some u ∧ S p.2 u := by
  intro ks kv h1
  unfold KVs at h1
  induction h1 with
  | nil => intro _ p hp; cases hp
  | @cons p q ps qs z zs ih =>
    intro h p' hp'
    rcases List.mem_cons.mp hp' with rfl | hm
    · obtain ⟨u, e, r⟩ := h p (.head _)
      obtain ⟨w, hw, rw'⟩ := h2.val.1 _ e
      exact ⟨w, by rw [← z.1]; exact hw, f _ _ _ _ r z.2 rw'⟩
    · exact ih (fun p hp => h p (.tail _ hp)) p' hm
theorem sameY_go {K : PySem.W.Frag} {H : Hp} {m : Mem} (r : RM K H m) : ∀ (n : Nat) (x y : D) (v w : V), SameY m n x y → Rep K H x v → Rep K H y w → EqY K H n v w
  | 0, _, _, _, _, h, _, _ => h
  | n + 1, x, y, v, w, h, hx, hy => by
    have ih := sameY_go r n
    rcases h with h | ⟨ds, es, rfl, rfl, h⟩ | ⟨a, b, ds, es, rfl, rfl, e1, e2, h⟩ | ⟨a, b, ks, ls, rfl, rfl, e1, e2, hl, h⟩
    · exact .inl (sc_true hx hy h)
    · obtain ⟨a, xs, e1, s1, r1⟩ := Rep.tup_iff.mp hx
      obtain ⟨b, ys, e2, s2, r2⟩ := Rep.tup_iff.mp hy
      exact .inr (.inr (.inr ⟨a, b, xs, ys, e1, e2, s1.sq, s2.sq, paired_rep ih h r1 r2⟩))
    · obtain ⟨xs, s1, r1⟩ := rd_lst r e1
      obtain ⟨ys, s2, r2⟩ := rd_lst r e2
      exact .inr (.inr (.inl (.inl ⟨a, b, xs, ys, Rep.ref_iff.mp hx, Rep.ref_iff.mp hy, s1, s2, paired_rep ih h r1 r2⟩)))
    · obtain ⟨u1, h1, xs, rfl, r1⟩ := r _ _ e1
      obtain ⟨u2, h2, ys, rfl, r2⟩ := r _ _ e2
      exact .inr (.inr (.inl (.inr ⟨a, b, xs, ys, Rep.ref_iff.mp hx, Rep.ref_iff.mp hy, h1, h2, by rw [← r1.length, ← r2.length]; exact hl, dicts_rep ih r2 r1 h⟩)))
/-- x == y of two lists that are alike -/
def wEqY : R2m := fun x y m Q => ∃ n a b xs ys, n ≤ 60 ∧ x = .ref a ∧ y = .ref b ∧ rdM m a = some (.lst xs) ∧ rdM m b = some (.lst ys) ∧ Paired (SameY m n) xs ys ∧ Q (.bl true) m
theorem mo_eqY {k : Nat} (hr : Room k X.A) : MOp X (compareOp .Eq) wEqY := mop_of (op_eqY (hu64 hr)) fun x y v w H m Q Qm hx hy r q k => by
  obtain ⟨n, a, b, xs, ys, hn, rfl, rfl, h1, h2, h, q⟩ := q
  obtain ⟨vs, s1, r1⟩ := rd_lst r h1
  obtain ⟨ws, s2, r2⟩ := rd_lst r h2
  exact ⟨n, hn, .inl ⟨_, _, vs, ws, Rep.ref_iff.mp hx, Rep.ref_iff.mp hy, s1, s2, paired_rep (sameY_go r n) h r1 r2⟩, k _ _ _ _ q r Step.refl Rep.bl⟩
end
end Mm
namespace Mm
open PySem L2
/-! ### dict(pairs) -/
section
variable {X : Cx}
theorem pairs_rep {K : PySem.W.Frag} {H : Hp} : ∀ {kvs : List (Key × D)} {vs : List V}, Reps K H (kvs.map fun p => D.tup [kD p.1, p.2]) vs → ∃ (ps : List Addr) (ws : List (Key × V)), vs = ps.map V.ref ∧ Paired (fun p kv => SqT K H p [kV kv.1, kv.2]) ps ws ∧ KVs K H kvs ws
  | [], _, h => ⟨[], [], by rw [Reps.nil_iff.mp h]; rfl, .nil, .nil⟩
  | p :: kvs, _, h => by
    obtain ⟨v, r, e, x, y⟩ := Reps.cons_iff.mp h
    obtain ⟨ps, ws, e1, h1, h2⟩ := pairs_rep y
    obtain ⟨a, xs, e2, s, rr⟩ := Rep.tup_iff.mp x
    obtain ⟨k, d, e3, x1, x2⟩ := reps2 rr
    subst e3
    refine ⟨a :: ps, (p.1, d) :: ws, by rw [e, e1, e2]; rfl, .cons ?_ h1, .cons ⟨rfl, x2⟩ h2⟩
    have := s.sq
    rw [kD_rep x1] at this
    exact this
def wDictP : RLm := fun ds m Q => match ds with
  | [.ref a] => ∃ kvs : List (Key × D), rdM m a = some (.lst (kvs.map fun p => .tup [kD p.1, p.2])) ∧ newO (.dK (mergeD [] kvs)) m Q
  | _ => False
theorem mc_dictP (hc : X.calm = true := by rfl) : MCall X (.type "dict") wDictP := mcall_of (call_dictP hc) fun ds vs H m Q Qm hx r q k => by
  unfold wDictP at q; split at q
  · obtain ⟨v, e, x⟩ := reps1 hx
    rw [Rep.ref_iff.mp x] at e
    obtain ⟨kvs, e1, q⟩ := q
    obtain ⟨xs, s, rr⟩ := rd_lst r e1
    obtain ⟨ps, ws, rfl, h1, h2⟩ := pairs_rep rr
    exact ⟨_, ps, ws, e, s, h1, new_go q r Step.refl ⟨_, rfl, KVs.merge h2 .nil⟩ k⟩
  · exact q.elim
end
end Mm
namespace Mm
open PySem L2

/-! ### dicts whose keys are nested tuples -/
abbrev KNs (K : PySem.W.Frag) (H : Hp) : List (NestedKey × D) → List (NestedKey × Addr × V) → Prop := Paired fun p q => p.1 = q.1 ∧ p.1.depth ≤ 8 ∧ Rep K H (nkD p.1) (.ref q.2.1) ∧ Rep K H p.2 q.2.2
section
variable {X : Cx} {pins : List (Addr × Obj)} {σ : St} {H : Hp} {s : Shared}
mutual
theorem nested_is (I : Inv X pins σ H s) : ∀ (k : NestedKey) (v : V) (u : Value), Rep X.K H (nkD k) v → RelV v u → NestedIs s.heap k u
  | .none, v, u, h, r => by
    rw [nkD] at h
    rw [Rep.non_iff.mp h] at r
    have : u = .none := r
    rw [this]; exact .none
  | .num i, v, u, h, r => by
    rw [nkD] at h
    rw [Rep.int_iff.mp h] at r
    obtain ⟨t, e⟩ := (show ∃ t, u = Value.int i t from r)
    rw [e]; exact .int i t
  | .text x, v, u, h, r => by
    rw [nkD] at h
    rw [Rep.str_iff.mp h] at r
    obtain ⟨t, e⟩ := (show ∃ t, u = Value.str x t from r)
    rw [e]; exact .text x t
  | .tup ks, v, u, h, r => by
    rw [nkD] at h
    obtain ⟨a, xs, e, ta, rr⟩ := Rep.tup_iff.mp h
    rw [e] at r
    have e2 : u = .ref a := r
    obtain ⟨its, rv, ⟨o, ho, hc, n, hd⟩, _⟩ := I.tuple ta.sq
    rw [e2]
    exact .tup ho hc hd (by simpa using nested_all I ks xs its rr rv)
theorem nested_all (I : Inv X pins σ H s) : ∀ (ks : List NestedKey) (vs : List V) (us : List Value), Reps X.K H (nkDs ks) vs → Vals vs us → NestedAll s.heap ks us
  | [], vs, us, h, r => by
    rw [nkDs] at h
    rw [Reps.nil_iff.mp h] at r
    cases r; exact .nil
  | k :: ks, vs, us, h, r => by
    rw [nkDs] at h
    obtain ⟨v, w, e, h1, h2⟩ := Reps.cons_iff.mp h
    rw [e] at r
    cases r with
    | cons r1 r2 => exact .cons (nested_is I k v _ h1 r1) (nested_all I ks w _ h2 r2)
end
theorem nk_is (I : Inv X pins σ H s) {k : NestedKey} {b : Addr} (h : Rep X.K H (nkD k) (.ref b)) (d : k.depth ≤ 8) : (nestedKind X.prog X.w).is s.heap k b := ⟨nested_is I k _ _ h rfl, d⟩
/-- the raw table -/
abbrev NRel : List (NestedKey × Addr × V) → List (NestedKey × Addr × Value) → Prop := Paired fun p q => p.1 = q.1 ∧ p.2.1 = q.2.1 ∧ RelV p.2.2 q.2.2
theorem nd_of {a : Addr} {kvs : List (NestedKey × D)} {xs : List (NestedKey × Addr × V)} (I : Inv X pins σ H s) (e : H a = some (.ext (NDφ X.w a xs))) (kv : KNs X.K H kvs xs) :
    xs.length ≤ sizeLine ∧ (a == sysModules) = false ∧ ∃ ys, NRel xs ys ∧ s.heap.DictOfH (nestedKind X.prog X.w) a ys := by
  obtain ⟨⟨z, hd, ys, rel, o, es, ep, h1, h2, h3, h4, h5⟩, _, _⟩ := (show ObjOk X.prog X.w H s.heap a (.ext (NDφ X.w a xs)) from I.hok a _ e)
  refine ⟨z, hd, ys, rel, o, es, ep, h1, h2, h3, h4, ?_, h5⟩
  have all : ∀ {l : List (NestedKey × D)} {x : List (NestedKey × Addr × V)} {y : List (NestedKey × Addr × Value)}, KNs X.K H l x → NRel x y → ∀ q ∈ y, (nestedKind X.prog X.w).is s.heap q.1 q.2.1 := by
    intro l x y q
    induction q generalizing y with
    | nil => intro r q hq; cases r; exact nomatch hq
    | cons h _ ih =>
      intro r q hq
      cases r with
      | cons r1 r2 =>
        rcases List.mem_cons.mp hq with e | hq
        · subst e
          rw [← r1.1, ← r1.2.1, ← h.1]
          exact nk_is I h.2.2.1 h.2.1
        · exact ih r2 q hq
  exact all kv rel
theorem nval {K : PySem.W.Frag} {kvs : List (NestedKey × D)} {xs : List (NestedKey × Addr × V)} {ys : List (NestedKey × Addr × Value)} (kv : KNs K H kvs xs) (rel : NRel xs ys) (k : NestedKey) :
    (∀ d, valD kvs k = some d → ∃ v p, Rep K H d v ∧ atKey ys k = some p ∧ RelV v p.2) ∧ (valD kvs k = none → atKey ys k = none) := by
  induction kv generalizing ys with
  | nil => cases rel; exact ⟨fun d e => by simp [valD] at e, fun _ => rfl⟩
  | @cons p q ps qs h _ ih =>
    cases rel with
    | @cons _ y _ ys r1 r2 =>
    obtain ⟨i1, i2⟩ := ih r2
    by_cases e : p.1 = k
    · have e' : y.1 = k := by rw [← r1.1, ← h.1]; exact e
      have b : atKey (y :: ys) k = some y.2 := by simp [atKey, List.find?_cons, e']
      refine ⟨fun d z => ?_, fun z => ?_⟩
      · simp [valD, List.find?_cons, e] at z
        subst z
        exact ⟨q.2.2, y.2, h.2.2.2, b, r1.2.2⟩
      · simp [valD, List.find?_cons, e] at z
    · have e' : ¬ y.1 = k := by rw [← r1.1, ← h.1]; exact e
      have b : atKey (y :: ys) k = atKey ys k := by simp [atKey, List.find?_cons, e']
      have c : valD (p :: ps) k = valD ps k := by simp [valD, List.find?_cons, e]
      rw [b, c]; exact ⟨i1, i2⟩
/-- as storedH -/
def putX (xs : List (NestedKey × Addr × V)) (k : NestedKey) (b : Addr) (v : V) : List (NestedKey × Addr × V) :=
  if (xs.any fun x => decide (x.1 = k)) = true then xs.map (fun x => if x.1 = k then (x.1, x.2.1, v) else x) else xs ++ [(k, b, v)]
theorem putX_len {xs : List (NestedKey × Addr × V)} {k : NestedKey} {b : Addr} {v : V} : (putX xs k b v).length ≤ xs.length + 1 := by
  unfold putX; split
  · rw [List.length_map]; omega
  · rw [List.length_append]; simp
theorem NRel.put {xs : List (NestedKey × Addr × V)} {ys : List (NestedKey × Addr × Value)} (rel : NRel xs ys) {k : NestedKey} {b : Addr} {v : V} {u : Value} (r : RelV v u) : NRel (putX xs k b v) (storedH ys k b u) := by
  have e1 : (xs.any fun x => decide (x.1 = k)) = (atKey ys k).isSome := by
    induction rel with
    | nil => rfl
    | @cons p q ps qs h _ ih =>
      rw [List.any_cons, ih]
      by_cases e : p.1 = k
      · have e' : q.1 = k := h.1 ▸ e
        simp [atKey, List.find?_cons, e, e']
      · have e' : ¬ q.1 = k := h.1 ▸ e
        simp [atKey, List.find?_cons, e, e']
  unfold putX storedH
  rw [e1]
  split
  · rename_i hh
    clear e1 hh
    induction rel with
    | nil => exact .nil
    | @cons p q ps qs h _ ih =>
      refine .cons ?_ ih
      unfold putAt
      by_cases e : p.1 = k
      · have e' : q.1 = k := h.1 ▸ e
        simp only [if_pos e, if_pos e']; exact ⟨h.1, h.2.1, r⟩
      · have e' : ¬ q.1 = k := h.1 ▸ e
        simp only [if_neg e, if_neg e']; exact h
  · exact Paired.snoc rel ⟨rfl, rfl, r⟩
theorem KNs.put {K : PySem.W.Frag} {kvs : List (NestedKey × D)} {xs : List (NestedKey × Addr × V)} (kv : KNs K H kvs xs) {k : NestedKey} {b : Addr} {d : D} {v : V} (hd : k.depth ≤ 8) (hk : Rep K H (nkD k) (.ref b)) (r : Rep K H d v) : KNs K H (putD kvs k d) (putX xs k b v) := by
  have e1 : (kvs.any fun x => decide (x.1 = k)) = (xs.any fun x => decide (x.1 = k)) := by
    induction kv with
    | nil => rfl
    | cons h _ ih => rw [List.any_cons, List.any_cons, ih, h.1]
  unfold putX putD
  rw [e1]
  split
  · rename_i hh
    clear e1 hh
    induction kv with
    | nil => exact .nil
    | @cons p q ps qs h _ ih =>
      refine .cons ?_ ih
      by_cases e : p.1 = k
      · have e' : q.1 = k := h.1 ▸ e
        simp only [if_pos e, if_pos e']; exact ⟨h.1, h.2.1, h.2.2.1, r⟩
      · have e' : ¬ q.1 = k := h.1 ▸ e
        simp only [if_neg e, if_neg e']; exact h
  · exact Paired.snoc kv ⟨rfl, hd, hk, r⟩
end
section
variable {X : Cx} {B : Bs} {o i e value : Expr} {pos pos' : Pos} {pa pb pc : TEm}
theorem nroom {A : Around} {k : Nat} (hr : Room k A) : (nestedKind X.prog X.w).room A.in1 := by
  show A.in1.units + 8 < cLine
  have := hu64 hr
  rw [Around.in1_units]; omega
/-- y in d, y not in d -/
def wNIn (w : World) (neg : Bool) : R2m := fun y x m Q => match x with
  | .ref a => ∃ kvs ks, m a = some (.dN w a kvs) ∧ y = nkD (.tup ks) ∧ (NestedKey.tup ks).depth ≤ 8 ∧ Q (.bl (if neg then !(valD kvs (.tup ks)).isSome else (valD kvs (.tup ks)).isSome)) m
  | _ => False
theorem mo_nin {k : Nat} (hr : Room k X.A) : MOp X (compareOp .In) (wNIn X.w false) := fun pins s σ H vy vx uy ux Q I ry rx ⟨y, x, m, Qm, hy, hx, r, q, kk⟩ => by
  unfold wNIn at q
  split at q
  · obtain ⟨kvs, ks, e, ey, dp, q⟩ := q
    subst ey
    obtain ⟨u, h1, xs, eu, kv⟩ := r _ _ e
    subst eu
    obtain ⟨b, _, eb, _, _⟩ := Rep.tup_iff.mp (show Rep X.K H (.tup (nkDs ks)) vy by rw [nkD] at hy; exact hy)
    subst eb
    obtain rfl : uy = .ref b := ry
    have hx' := Rep.ref_iff.mp hx
    subst hx'
    obtain rfl := (show ux = .ref _ from rx)
    obtain ⟨z, hd, ys, rel, dd⟩ := nd_of I h1 kv
    refine wpAny_in_heap (knd := nestedKind X.prog X.w) (nroom hr) (nk_is I hy dp) hd dd ?_
    obtain ⟨n1, n2⟩ := nval kv rel (.tup ks)
    have es : (atKey ys (.tup ks)).isSome = (valD kvs (.tup ks)).isSome := by
      cases c : valD kvs (.tup ks) with
      | none => rw [n2 c]; rfl
      | some d => obtain ⟨_, p, _, ep, _⟩ := n1 d c; rw [ep]; rfl
    rw [es]
    exact ⟨.bl _, H, I.tok _, rfl, kk _ _ _ _ q r Step.refl Rep.bl⟩
  · exact q.elim
theorem mo_nnotin {k : Nat} (hr : Room k X.A) : MOp X (compareOp .NotIn) (wNIn X.w true) := fun pins s σ H vy vx uy ux Q I ry rx ⟨y, x, m, Qm, hy, hx, r, q, kk⟩ => by
  unfold wNIn at q
  split at q
  · obtain ⟨kvs, ks, e, ey, dp, q⟩ := q
    subst ey
    obtain ⟨u, h1, xs, eu, kv⟩ := r _ _ e
    subst eu
    obtain ⟨b, _, eb, _, _⟩ := Rep.tup_iff.mp (show Rep X.K H (.tup (nkDs ks)) vy by rw [nkD] at hy; exact hy)
    subst eb
    obtain rfl : uy = .ref b := ry
    have hx' := Rep.ref_iff.mp hx
    subst hx'
    obtain rfl := (show ux = .ref _ from rx)
    obtain ⟨z, hd, ys, rel, dd⟩ := nd_of I h1 kv
    refine PyProof.Rows.wpAny_notIn_heap (knd := nestedKind X.prog X.w) (nroom hr) (nk_is I hy dp) hd dd ?_
    obtain ⟨n1, n2⟩ := nval kv rel (.tup ks)
    have es : (atKey ys (.tup ks)).isSome = (valD kvs (.tup ks)).isSome := by
      cases c : valD kvs (.tup ks) with
      | none => rw [n2 c]; rfl
      | some d => obtain ⟨_, p, _, ep, _⟩ := n1 d c; rw [ep]; rfl
    rw [es]
    exact ⟨.bl _, H, I.tok _, rfl, kk _ _ _ _ q r Step.refl Rep.bl⟩
  · exact q.elim
/-- d[y] -/
def wNGet (w : World) : R2m := fun x y m Q => match x with
  | .ref a => ∃ kvs ks d, m a = some (.dN w a kvs) ∧ y = nkD (.tup ks) ∧ (NestedKey.tup ks).depth ≤ 8 ∧ valD kvs (.tup ks) = some d ∧ Q d m
  | _ => False
theorem mi_nget {k : Nat} (hr : Room k X.A) : MIx X (wNGet X.w) := fun value slice pins s σ H vx vy ux uy Q I rx ry ⟨x, y, m, Qm, hx, hy, r, q, kk⟩ hs => by
  unfold wNGet at q
  split at q
  · obtain ⟨kvs, ks, d, e, ey, dp, ev, q⟩ := q
    subst ey
    obtain ⟨u, h1, xs, eu, kv⟩ := r _ _ e
    subst eu
    obtain ⟨b, _, eb, _, _⟩ := Rep.tup_iff.mp (show Rep X.K H (.tup (nkDs ks)) vy by rw [nkD] at hy; exact hy)
    subst eb
    obtain rfl : uy = .ref b := ry
    have hx' := Rep.ref_iff.mp hx
    subst hx'
    obtain rfl := (show ux = .ref _ from rx)
    obtain ⟨z, hd, ys, rel, dd⟩ := nd_of I h1 kv
    obtain ⟨v, p, hv, ep, rv⟩ := (nval kv rel (.tup ks)).1 d ev
    exact PyProof.Rows.tail_any dd.typeIs PySem.F.slot_dict_getitem.lookup (wpAny_getItem_heap (knd := nestedKind X.prog X.w) (nroom hr) (nk_is I hy dp) dd ep ⟨v, H, I.tok _, rv, kk _ _ _ _ q r Step.refl hv⟩) hs
  · exact q.elim
/-- d[y] = v -/
def wNPut (w : World) (pa pb pc : TEm) : TSm := fun E ρ m => pc ρ m fun z m1 => pa ρ m1 fun x m2 => pb ρ m2 fun y m3 => refAt x fun a => ∃ kvs ks, m3 a = some (.dN w a kvs) ∧ y = nkD (.tup ks) ∧ (NestedKey.tup ks).depth ≤ 8 ∧ kvs.length < sizeLine ∧ E.nx ρ (mput m3 a (.dN w a (putD kvs (.tup ks) z)))
theorem ms_nput {k : Nat} (hr : Room k X.A) (ho : MX X B o pa) (hi : MX X B i pb) (hv : MX X B value pc) (hs : swapsWith value (some (.Subscript o i pos')) pos.line X.env = pure false := by rfl) : MS X B (.Assign [.Subscript o i pos'] value pos) (wNPut X.w pa pb pc) := by
  refine ⟨fun pins s σ H D I ⟨ρ, m, E, A, q, n, _⟩ => ?_⟩
  refine wpAny_Assign_Subscript (thn (hv.run pins s σ H (fun v H1 => ∃ z m1, Rep X.K H1 z v ∧ RM X.K H1 m1 ∧ Step m H m1 H1 ∧ pa ρ m1 fun x m2 => pb ρ m2 fun y m3 => refAt x fun a => ∃ kvs ks, m3 a = some (.dN X.w a kvs) ∧ y = nkD (.tup ks) ∧ (NestedKey.tup ks).depth ≤ 8 ∧ kvs.length < sizeLine ∧ E.nx ρ (mput m3 a (.dN X.w a (putD kvs (.tup ks) z)))) I
    ⟨ρ, m, _, A, q, fun z m1 v H1 q1 r1 t1 x1 => ⟨z, m1, x1, r1, t1, q1⟩⟩) fun rv s1 ⟨v, H1, I1, rvv, z, m1, xz, r1, t1, q1⟩ => ?_) hs
  refine thn (ho.run pins s1 σ H1 (fun v H2 => ∃ x m2, Rep X.K H2 x v ∧ RM X.K H2 m2 ∧ Step m1 H1 m2 H2 ∧ pb ρ m2 fun y m3 => refAt x fun a => ∃ kvs ks, m3 a = some (.dN X.w a kvs) ∧ y = nkD (.tup ks) ∧ (NestedKey.tup ks).depth ≤ 8 ∧ kvs.length < sizeLine ∧ E.nx ρ (mput m3 a (.dN X.w a (putD kvs (.tup ks) z)))) I1
    ⟨ρ, m1, _, A.step r1 t1, q1, fun x m2 v H2 q2 r2 t2 x2 => ⟨x, m2, x2, r2, t2, q2⟩⟩) fun uo s2 ⟨vx, H2, I2, rvx, x, m2, xx, r2, t2, q2⟩ => ?_
  refine thn (hi.run pins s2 σ H2 (fun v H3 => ∃ y m3, Rep X.K H3 y v ∧ RM X.K H3 m3 ∧ Step m2 H2 m3 H3 ∧ refAt x fun a => ∃ kvs ks, m3 a = some (.dN X.w a kvs) ∧ y = nkD (.tup ks) ∧ (NestedKey.tup ks).depth ≤ 8 ∧ kvs.length < sizeLine ∧ E.nx ρ (mput m3 a (.dN X.w a (putD kvs (.tup ks) z)))) I2
    ⟨ρ, m2, _, (A.step r1 t1).step r2 t2, q2, fun y m3 v H3 q3 r3 t3 x3 => ⟨y, m3, x3, r3, t3, q3⟩⟩) fun uy s3 ⟨vy, H3, I3, rvy, y, m3, xy, r3, t3, q3⟩ => ?_
  unfold refAt at q3
  split at q3
  · rename_i a _
    obtain ⟨kvs, ks, e, ey, dp, hl, q3⟩ := q3
    subst ey
    obtain ⟨u, h1, xs, eu, kv⟩ := r3 _ _ e
    subst eu
    obtain ⟨b, _, eb, _, _⟩ := Rep.tup_iff.mp (show Rep X.K H3 (.tup (nkDs ks)) vy by rw [nkD] at xy; exact xy)
    subst eb
    obtain rfl : uy = .ref b := rvy
    have hx' := Rep.ref_iff.mp xx
    subst hx'
    obtain rfl := (show uo = .ref _ from rvx)
    have t23 := t2.trans t3
    have xz3 := xz.stay (t23.tups r1)
    obtain ⟨zl, hd, ys, rel, dd⟩ := nd_of I3 h1 kv
    have hz : ys.length ≤ sizeLine := by rw [← Paired.length rel]; exact zl
    have hl2 : (putX xs (.tup ks) b v).length ≤ sizeLine := by
      have := putX_len (xs := xs) (k := .tup ks) (b := b) (v := v)
      have e3 := Paired.length kv
      omega
    refine wpAny_setItem_heap (knd := nestedKind X.prog X.w) (hsz := hz) (nroom hr) (nk_is I3 xy dp) dd fun h' dd' hs' => ?_
    obtain ⟨ob, es, ep, hq, h2, h3, h4, _, h5⟩ := dd'
    have rn := KNs.put kv dp xy xz3
    have rm := r3.put (o := .dN X.w a (putD kvs (.tup ks) z)) (u := .ext (NDφ X.w a (putX xs (.tup ks) b v))) e trivial ⟨_, rfl, rn⟩
    have st := Step.put (o := .dN X.w a (putD kvs (.tup ks) z)) (u := .ext (NDφ X.w a (putX xs (.tup ks) b v))) r3 e trivial
    have tt := t1.trans (t23.trans st)
    refine ⟨σ, upd H3 a (.ext (NDφ X.w a (putX xs (.tup ks) b v))), ?_, n _ _ _ _ q3 rm tt (A.step rm tt).s⟩
    refine d_write I3 (by rw [h1]; exact True.intro) hs' ⟨ob, hq⟩ ⟨⟨hl2, hd, _, NRel.put rel rvv, ob, es, ep, hq, h2, h3, h4, h5⟩, ⟨ob, hq⟩, ?_⟩
    rintro g1 g2 ⟨c1, c2, ys', c3, o', es', ep', c4, c5⟩ keep
    exact ⟨c1, c2, ys', c3, o', es', ep', keep _ c4, c5⟩
  · exact q3.elim
/-- {} -/
def wNNew (w : World) : TEm := fun _ m Q => ∀ p, m p = none → Q (.ref p) (mput m p (.dN w p []))
theorem mx_nnew : MX X B (.Dict [] [] pos) (wNNew X.w) := ⟨fun pins s σ H Q I ⟨ρ, m, Qm, A, q, kk⟩ =>
  wpAny_Dict_empty ⟨.ref s.heap.objs.size, upd H s.heap.objs.size (.ext (NDφ X.w s.heap.objs.size [])), I.laid (a := s.heap.objs.size) (o := .ext (NDφ X.w s.heap.objs.size [])) (t' := s.toks) (fun _ _ q => Heap.get?_push_of_some _ q) (Nat.le_refl _)
    (by
      refine ⟨⟨Nat.zero_le _, beq_eq_false_iff_ne.mpr (Ne.symm (Nat.ne_of_lt I.big)), [], .nil, _, #[], 0, Heap.get?_push_size _ rfl, ⟨rfl, rfl, rfl⟩, rfl, rfl, List.nodup_nil⟩, ⟨_, Heap.get?_push_size _ rfl⟩, ?_⟩
      rintro g1 g2 ⟨c1, c2, ys', c3, o', es', ep', c4, c5⟩ keep
      exact ⟨c1, c2, ys', c3, o', es', ep', keep _ c4, c5⟩), rfl, by
    have hp : H s.heap.objs.size = none := I.hok.fresh (Nat.le_refl _)
    exact kk _ _ _ _ (q _ (A.r.out hp)) (A.r.new hp ⟨[], rfl, .nil⟩) (Step.new A.r hp) Rep.ref⟩⟩
end
section
variable {E : EndsM} {ρ : StM} {m : Mem} {Q : KM} {w : World} {pa pb pc : TEm}
theorem i_nin {neg : Bool} {a : Addr} {kvs : List (NestedKey × D)} {ks : List NestedKey} (e : m a = some (.dN w a kvs)) (dp : (NestedKey.tup ks).depth ≤ 8) (q : Q (.bl (if neg then !(valD kvs (.tup ks)).isSome else (valD kvs (.tup ks)).isSome)) m) : wNIn w neg (nkD (.tup ks)) (.ref a) m Q := ⟨kvs, ks, e, rfl, dp, q⟩
theorem i_nget {a : Addr} {kvs : List (NestedKey × D)} {ks : List NestedKey} {d : D} (e : m a = some (.dN w a kvs)) (dp : (NestedKey.tup ks).depth ≤ 8) (v : valD kvs (.tup ks) = some d) (q : Q d m) : wNGet w (.ref a) (nkD (.tup ks)) m Q := ⟨kvs, ks, d, e, rfl, dp, v, q⟩
theorem i_nput (h : pc ρ m fun z m1 => pa ρ m1 fun x m2 => pb ρ m2 fun y m3 => refAt x fun a => ∃ kvs ks, m3 a = some (.dN w a kvs) ∧ y = nkD (.tup ks) ∧ (NestedKey.tup ks).depth ≤ 8 ∧ kvs.length < sizeLine ∧ E.nx ρ (mput m3 a (.dN w a (putD kvs (.tup ks) z)))) : wNPut w pa pb pc E ρ m := h
end
end Mm
namespace Mm
open PySem L2
/-! ### for x, y in zip(xs, ys), of two lists -/
def zipD (xs ys : List D) : List D := (xs.zip ys).map fun p => .tup [p.1, p.2]
def iZip (t : TAm) : TIm := fun ρ m R => t ρ m fun ds m1 => ∃ a b xs ys, ds = [.ref a, .ref b] ∧ rdM m1 a = some (.lst xs) ∧ rdM m1 b = some (.lst ys) ∧ R (zipD xs ys) (fun m' => rdM m' a = some (.lst xs) ∧ rdM m' b = some (.lst ys)) m1
section
variable {X : Cx} {B : Bs} {e e2 : Expr} {la : TAm} {p pos tpos : Pos} {elts : List Expr} {kk : Nat}
theorem good_zip {K : PySem.W.Frag} {a b : Addr} {xs ys : List D} {m1 : Mem} {H1 : Hp} : Good K (Itz K a b) (zipD xs ys) (fun m' => rdM m' a = some (.lst xs) ∧ rdM m' b = some (.lst ys)) m1 H1 := fun i m' H' s r c => by
  obtain ⟨us, s1, r1⟩ := rd_lst r c.1
  obtain ⟨ws, s2, r2⟩ := rd_lst r c.2
  refine ⟨fun d e => ?_, fun e => ⟨us, ws, s1, s2, ?_⟩⟩
  · unfold zipD at e
    rw [List.getElem?_map] at e
    obtain ⟨⟨x, y⟩, e1, rfl⟩ := Option.map_eq_some_iff.mp e
    rw [List.getElem?_zip_eq_some] at e1
    obtain ⟨u, hu, ru⟩ := r1.get e1.1
    obtain ⟨w, hw, rw'⟩ := r2.get e1.2
    refine ⟨⟨us, ws, u, w, s1, s2, hu, hw⟩, fun v H2 z => ?_⟩
    obtain ⟨T, x', y', rfl, hT, rfl, f1, f2⟩ := z
    have e3 := f1 us s1
    have e4 := f2 ws s2
    rw [hu] at e3; cases e3
    rw [hw] at e4; cases e4
    have st : Step m' H' m' (upd H' T (.tup [u, w])) := Step.hid r hT
    exact ⟨r.hid hT, st, Rep.tup_iff.mpr ⟨T, [u, w], rfl, TupAt.of upd_same, Reps.cons (ru.stay (st.tups r)) (Reps.cons (rw'.stay (st.tups r)) Reps.nil)⟩⟩
  · have h1 := r1.length
    have h2 := r2.length
    unfold zipD at e
    rw [List.length_map, List.length_zip] at e
    omega
theorem mi_zip (hm : X.mg "zip" = none) (ha : MA X B [e, e2] la) (hg : Gl X "zip" := by rfl)
    (hs : starEach [e, e2] X.env = (false, eval e X.env) :: starEach [e2] X.env := by rfl) (hpl : (backTo pos (starEach [e2] X.env)).any (·.1) = false := by rfl) :
    MI X B (.Tuple elts kk tpos) (.Call (.Name "zip" p) [e, e2] [] pos) (iZip la) := piImp (RZ.pi_zipA hg hm ha hs hpl) fun σ H R ⟨ρ, m, Rm, A, q, k⟩ => by
  refine ⟨ρ, m, _, A, q, fun ds m1 vs H1 q1 r1 t1 x1 => ?_⟩
  obtain ⟨a, b, xs, ys, rfl, e1, e2, q1⟩ := q1
  obtain ⟨v, w, ev, y, z⟩ := reps2 x1
  rw [Rep.ref_iff.mp y, Rep.ref_iff.mp z] at ev
  obtain ⟨us, s1, rr1⟩ := rd_lst r1 e1
  obtain ⟨ws, s2, rr2⟩ := rd_lst r1 e2
  exact ⟨a, b, us, ws, ev, .inl ⟨s1, s2, k _ _ _ _ _ q1 r1 t1 good_zip⟩⟩
theorem i_iZip {ρ : StM} {m : Mem} {R : List D → (Mem → Prop) → Mem → Prop} (h : la ρ m fun ds m1 => ∃ a b xs ys, ds = [.ref a, .ref b] ∧ rdM m1 a = some (.lst xs) ∧ rdM m1 b = some (.lst ys) ∧ R (zipD xs ys) (fun m' => rdM m' a = some (.lst xs) ∧ rdM m' b = some (.lst ys)) m1) : iZip la ρ m R := h
end
end Mm
namespace Mm
open PySem L2
open PyProof.Rows (envOfC)

/-! numbers that are told -/
inductive Jn where
  | plus | minus | times | most | least
def Jn.w : Jn → Str
  | .plus => "plus" | .minus => "minus" | .times => "times" | .most => "most" | .least => "least"
def Jn.ap : Jn → Int → Int → Int
  | .plus, a, b => a + b | .minus, a, b => a - b | .times, a, b => a * b | .most, a, b => if b > a then b else a | .least, a, b => if b < a then b else a
inductive Told where
  | num (i : Int) | read (x : Str) | bin (j : Jn) (a b : Told)
def Told.d : Told → D
  | .num i => .tup [.str "num", .int i]
  | .read x => .tup [.str "read", .str x]
  | .bin j a b => .tup [.str j.w, a.d, b.d]
def Told.dp : Told → Nat
  | .bin _ a b => max a.dp b.dp + 1
  | _ => 0
abbrev Row := List (Str × Int)
def Row.o (r : Row) : O := .dK (r.map fun p => (.inr p.1, .int p.2))
def Row.at (r : Row) (x : Str) : Int := (r.lookup x).getD 0
def Told.val (r : Row) : Told → Int
  | .num i => i
  | .read x => r.at x
  | .bin j a b => j.ap (a.val r) (b.val r)
/-- its names stand in the row, its numbers are within -/
def Told.ok (r : Row) : Told → Prop
  | .num i => i.natAbs < 2 ^ 50
  | .read x => ∃ i, r.lookup x = some i ∧ i.natAbs < 2 ^ 50
  | .bin _ a b => a.ok r ∧ b.ok r
theorem row_val {r : Row} {x : Str} {i : Int} (h : r.lookup x = some i) : valD (r.map fun p => ((.inr p.1 : Key), D.int p.2)) (.inr x) = some (.int i) := by
  induction r with
  | nil => simp at h
  | cons p r ih =>
    obtain ⟨y, j⟩ := p
    by_cases e : x = y
    · subst e
      simp [List.lookup] at h
      subst h
      simp [valD]
    · have e2 : (x == y) = false := by simpa using e
      simp only [List.lookup, e2] at h
      have := ih h
      have e' : ¬ y = x := fun z => e z.symm
      simpa [valD, e'] using this
theorem pow_mono {a b : Nat} (h : a ≤ b) {n : Nat} (k : n < 2 ^ a) : n < 2 ^ b := Nat.lt_of_lt_of_le k (Nat.pow_le_pow_right (by decide) h)
theorem ap_small {j : Jn} {a b : Int} {n : Nat} (ha : a.natAbs < 2 ^ n) (hb : b.natAbs < 2 ^ n) (hn : 0 < n) : (j.ap a b).natAbs < 2 ^ (2 * n) := by
  have h2 : 2 ^ (n + 1) ≤ 2 ^ (2 * n) := Nat.pow_le_pow_right (by decide) (by omega)
  have h3 : 2 ^ (n + 1) = 2 ^ n + 2 ^ n := by rw [Nat.pow_succ]; omega
  cases j with
  | plus => show (a + b).natAbs < _; omega
  | minus => show (a - b).natAbs < _; omega
  | times =>
    show (a * b).natAbs < _
    have e : 2 * n = n + n := by omega
    rw [e]; exact wide_lt ha hb
  | most => show (if b > a then b else a).natAbs < _; split <;> omega
  | least => show (if b < a then b else a).natAbs < _; split <;> omega
theorem Told.small {r : Row} : ∀ {t : Told}, t.ok r → (t.val r).natAbs < 2 ^ (50 * 2 ^ t.dp)
  | .num i, h => h
  | .read x, ⟨i, e, h⟩ => by
    show (Row.at r x).natAbs < _
    unfold Row.at; rw [e]; exact h
  | .bin j a b, ⟨h1, h2⟩ => by
    have e : 50 * 2 ^ (Told.bin j a b).dp = 2 * (50 * 2 ^ max a.dp b.dp) := by show 50 * 2 ^ (max a.dp b.dp + 1) = _; rw [Nat.pow_succ]; omega
    rw [e]
    have m1 : 50 * 2 ^ a.dp ≤ 50 * 2 ^ max a.dp b.dp := Nat.mul_le_mul_left _ (Nat.pow_le_pow_right (by decide) (Nat.le_max_left _ _))
    have m2 : 50 * 2 ^ b.dp ≤ 50 * 2 ^ max a.dp b.dp := Nat.mul_le_mul_left _ (Nat.pow_le_pow_right (by decide) (Nat.le_max_right _ _))
    exact ap_small (pow_mono m1 (Told.small h1)) (pow_mono m2 (Told.small h2)) (by have : 0 < 2 ^ max a.dp b.dp := Nat.pow_pos (by decide); omega)
theorem two_pow_le {a b : Nat} (h : a ≤ b) : 2 ^ a ≤ 2 ^ b := Nat.pow_le_pow_right (by decide) h
theorem Told.wide {r : Row} {t u : Told} (h1 : t.ok r) (h2 : u.ok r) (d1 : t.dp ≤ 12) (d2 : u.dp ≤ 12) : CMulW (t.val r) (u.val r) := by
  have e1 : 50 * 2 ^ t.dp ≤ 50 * 2 ^ 12 := Nat.mul_le_mul_left _ (two_pow_le d1)
  have e2 : 50 * 2 ^ u.dp ≤ 50 * 2 ^ 12 := Nat.mul_le_mul_left _ (two_pow_le d2)
  exact wide_mul (pow_mono e1 (Told.small h1)) (pow_mono e2 (Told.small h2)) (by decide) (by decide) (by decide)

/-- a def as it stands -/
structure Df (K : PySem.W.Frag) (mg : Str → Option Value) (x : Str) (f : Addr) (fd : FuncData) (ps : List Str) : Prop where
  b : Binds K fd ps []
  k : PySem.W.keepIn K (.ref f) = true
  m : mg x = some (.ref f)
/-- built-ins that are not hidden -/
structure Bl (mg : Str → Option Value) : Prop where
  b_ValueError : mg "ValueError" = none
  b_int : mg "int" = none
  b_isinstance : mg "isinstance" = none
  b_bool : mg "bool" = none
  b_str : mg "str" = none
  b_dict : mg "dict" = none
  b_all : mg "all" = none
  b_range : mg "range" = none
  b_tuple : mg "tuple" = none
  b_len : mg "len" = none
  b_max : mg "max" = none
  b_list : mg "list" = none
  b_min : mg "min" = none
  b_sorted : mg "sorted" = none
structure Gv (K : PySem.W.Frag) (mg : Str → Option Value) : Prop where
  SMALL : GlT K mg "SMALL" (.str "abcdefghijklmnopqrstuvwxyz")
  GREATEST : GlT K mg "GREATEST" (.int 1000000000000)
  MOST_LAST : GlT K mg "MOST_LAST" (.int 12)
  MOST_NAMES : GlT K mg "MOST_NAMES" (.int 3)
  MOST_STEPS : GlT K mg "MOST_STEPS" (.int 4)
  MOST_WEIGHT : GlT K mg "MOST_WEIGHT" (.int 999)
  MOST_FUTURES : GlT K mg "MOST_FUTURES" (.int 2000)
theorem fn_none {P : Program} {w : World} {K : PySem.W.Frag} {mg : Str → Option Value} {base : Heap} {CX : CXT} {k : Nat} {f : Addr} {fd : FuncData} {ps : List Str} {sp : SpM} (h : ∀ ds m Q E, ¬ sp ds m Q E) : FnM P w K mg base CX k f fd ps sp :=
  ⟨fun vs H Q E ⟨ds, m, Qm, Em, _, _, z, _⟩ => (h _ _ _ _ z).elim, fun A outer s H args us vs Q E _ _ _ _ ⟨ds, m, Qm, Em, _, _, z, _⟩ => (h _ _ _ _ z).elim⟩
def topS (i : Nat) : Stmt := PySem.Challenge.pw_contractbook_k06_futures_told.main.body.getD i (.Pass ⟨0, 0, 0, 0⟩)
variable {P : Program} {w : World} {K : PySem.W.Frag} {mg : Str → Option Value} {base : Heap}

local macro_rules | `(tactic| wtm_at "mem") => `(tactic| with_reducible first | assumption | exact mput_same | (apply mput_new; assumption; wtm_at "mem") | (apply mput_off; assumption; wtm_at "mem") | (apply mput_off'; assumption; wtm_at "mem") | (apply rd_K; wtm_at "mem") | (apply rd_L; wtm_at "mem") | (apply rd_T; wtm_at "mem") | (apply rd_I; wtm_at "mem") | (apply rd_frz; wtm_at "mem") | fail)
local macro_rules | `(tactic| wtm_at "dec") => `(tactic| first | with_reducible rfl | (simp only [isN, ofString_inj, decide_eq_true_eq, decide_eq_false_iff_not, String.reduceEq, reduceCtorEq, not_false_eq_true, decide_true, decide_false, Bool.not_true, Bool.not_false, Bool.not_eq_true', Bool.not_eq_false', Int.reduceLT, Int.reduceLE, Int.reduceEq]; done) | (decide) | (simp; done) | fail)
local macro_rules | `(tactic| wtm_at "get") => `(tactic| fail)
local macro_rules | `(tactic| wtm_at "len") => `(tactic| first | (simp; done) | fail)
local macro_rules | `(tactic| wtm_at "ty") => `(tactic| first | (with_reducible rfl) | assumption | (apply ty_L; wtm_at "mem") | (apply ty_K; wtm_at "mem") | rfl | fail)
local macro_rules | `(tactic| wtm_at "om") => `(tactic| first | assumption | (with_reducible decide) | omega | ((try dsimp only); omega) | fail)
local macro_rules | `(tactic| wtm_at "one") => `(tactic| first
  | (with_reducible first
  | refine i_bl ?_ | (apply i_var; (with_unfolding_all rfl))
  | refine i_seq ?_ | refine i_next ?_ | refine i_if ?_ | refine i_ret ?_ | refine i_set ?_
  | refine i_eqqS ?_ | refine i_eqqI ?_ | refine i_sub0 ?_ | refine i_sub1 ?_ | refine i_sub2 ?_ | (apply i_subT; (with_unfolding_all rfl)) | (apply i_subK; (focus (wtm_at "mem")); (focus (wtm_at "get"))) | refine i_I0 ?_ | refine i_plusI ?_
  | refine i_neqS ?_ | refine i_neqI ?_ | refine i_put ?_ | refine i_ref ?_
  | refine i_isN ?_ | refine i_notN ?_ | refine i_max2 ?_ | refine i_min2 ?_ | refine i_abs ?_ | refine i_intI ?_ | refine i_intB ?_
  | refine i_lenT ?_ | (apply i_lenL; (focus (wtm_at "mem"))) | refine i_listT ?_ | (apply i_listL; (focus (wtm_at "mem"))) | refine i_tupT ?_ | (apply i_tupL; (focus (wtm_at "mem"))) | refine i_neg ?_ | refine i_eqqB ?_ | refine i_neqB ?_
  | refine i_drop ?_ | refine i_retN ?_ | refine i_asg ?_ | refine i_par ?_ | refine i_gN ?_ | (apply i_gTup; (with_unfolding_all rfl)) | refine i_gC ?_ | refine i_gE ?_
  | refine i_for ?_ | refine i_lc ?_ | refine i_two ?_ | refine i_tupAt ?_ | refine i_int1 ?_ | refine i_int2 ?_ | refine i_intAt ?_ | refine i_slT ?_ | refine i_strAt ?_ | refine i_disp ?_ | refine i_pN ?_ | refine i_pC ?_ | (apply i_slL; (focus (wtm_at "mem")))
  | assumption)
  | ((with_reducible refine i_iteT ?_ ?_); (focus (wtm_at "dec"))) | ((with_reducible refine i_iteF ?_ ?_); (focus (wtm_at "dec")))
  | ((with_reducible refine i_dispE ?_ ?_ ?_); (focus (with_unfolding_all rfl)); (focus (wtm_at "len"))) | ((with_reducible apply i_isi); (focus (wtm_at "ty")); (focus (decide))) | ((with_reducible refine i_powL ?_ ?_); (focus (wtm_at "om"))) | ((with_reducible refine i_timesLL ?_ ?_); (focus (wtm_at "om"))) | ((with_reducible refine i_divW ?_ ?_ ?_); (focus (wtm_at "om")); (focus (wtm_at "om"))) | ((with_reducible refine i_mod ?_ ?_); (focus (wtm_at "om"))) | ((with_reducible refine And.intro (sl ?_) ?_); (focus (wtm_at "len"))) | ((with_reducible refine i_plusT (sl ?_) ?_); (focus (wtm_at "len"))) | assumption | (refine i_rt ?_; assumption))
local macro_rules | `(tactic| wtm_at "go") => `(tactic| ((try delta wBin wCons wNil wTest wCB wCall wTup wLst wC wAnd wOr wNot wAndV wOrV wNotV wIf wUn wChain iL iH iT iR1 iR2 iLS wApp wExt wPart wNoPart wSl wGet2 wJoin wAndT); repeat wtm_at "one"))

/-! ### what is drawn: the draw's dict -/
structure Dr where
  sc : Addr
  nm : Addr
  at_ : Int
  size : Int
  place : Int
  turn : Int
  talk : Int
  rest : Int
  mixed : Int
  odd : Option Int
def oddL : Option Int → List (Key × D)
  | none => []
  | some i => [(.inr "odd", .int i)]
def Dr.kvs (s : Dr) : List (Key × D) := [(.inr "numbers", .ref s.sc), (.inr "at", .int s.at_), (.inr "size", .int s.size), (.inr "place", .int s.place), (.inr "turn", .int s.turn), (.inr "talk", .int s.talk), (.inr "rest", .int s.rest), (.inr "names", .ref s.nm), (.inr "mixed", .int s.mixed)] ++ oddL s.odd
abbrev Dr.o (s : Dr) : O := .dK s.kvs
structure DrI (K : PySem.W.Frag) (m : Mem) (a : Addr) (s : Dr) : Prop where
  e : m a = some s.o
  sc : ∃ ns, LsK K m s.sc ns ∧ ns.length ≤ 63
  at0 : 0 ≤ s.at_
  rest0 : 0 ≤ s.rest
  mix0 : 0 ≤ s.mixed
  mix1 : s.mixed < 2147483647
/-- drawn on: but the place, the rest and the mixture all stays -/
def Dr.nx (s s' : Dr) : Prop := s'.sc = s.sc ∧ s'.nm = s.nm ∧ s'.size = s.size ∧ s'.place = s.place ∧ s'.turn = s.turn ∧ s'.talk = s.talk ∧ s'.odd = s.odd
theorem Dr.nx_refl {s : Dr} : s.nx s := ⟨rfl, rfl, rfl, rfl, rfl, rfl, rfl⟩
theorem Dr.nx_trans {s s' s2 : Dr} (a : s.nx s') (b : s'.nx s2) : s.nx s2 := by
  obtain ⟨a1, a2, a3, a4, a5, a6, a7⟩ := a
  obtain ⟨b1, b2, b3, b4, b5, b6, b7⟩ := b
  exact ⟨b1.trans a1, b2.trans a2, b3.trans a3, b4.trans a4, b5.trans a5, b6.trans a6, b7.trans a7⟩
theorem LsK.putD {K : PySem.W.Frag} {m : Mem} {a b : Addr} {o o' : O} {ns : List Int} (h : LsK K m a ns) (e : m b = some o) (w : ∀ ds, rdM m b ≠ some (.lst ds)) : LsK K (mput m b o') a ns := by
  rcases h with h | h
  · exact LsK.put (.inl h) fun z => by subst z; exact w _ h
  · exact .inr h
theorem DrI.rd {K : PySem.W.Frag} {m : Mem} {a : Addr} {s : Dr} (h : DrI K m a s) : rdM m a = some s.o := rd_of h.e trivial
/-- all else may change, too -/
theorem DrI.put {K : PySem.W.Frag} {m : Mem} {a : Addr} {s s' : Dr} (h : DrI K m a s) (e : s'.sc = s.sc) (h1 : 0 ≤ s'.at_) (h2 : 0 ≤ s'.rest) (h3 : 0 ≤ s'.mixed) (h4 : s'.mixed < 2147483647) : DrI K (mput m a s'.o) a s' := by
  obtain ⟨ns, l, z⟩ := h.sc
  refine ⟨mput_same, ⟨ns, by rw [e]; exact l.putD h.e fun ds z => (by rw [h.rd] at z; cases z), z⟩, h1, h2, h3, h4⟩
theorem DrI.new {K : PySem.W.Frag} {m : Mem} {a p : Addr} {s : Dr} {o : O} (h : DrI K m a s) (hp : m p = none) : DrI K (mput m p o) a s := by
  obtain ⟨ns, l, z⟩ := h.sc
  refine ⟨mput_new hp h.e, ⟨ns, ?_, z⟩, h.at0, h.rest0, h.mix0, h.mix1⟩
  rcases l with l | l
  · refine .inl ?_
    unfold rdM at l ⊢
    rw [mput_ne]; exact l
    rintro rfl; rw [hp] at l; cases l
  · exact .inr l
def spTaken (K : PySem.W.Frag) : SpM := fun ds m Q _ => ∃ (a : Addr) (k : Int) (s : Dr), ds = [.ref a, .int k] ∧ DrI K m a s ∧ 0 < k ∧ k ≤ 10 ^ 13 ∧
  ∀ r s', 0 ≤ r → r < k → s.nx s' → DrI K (mput m a s'.o) a s' → Q (.int r) (mput m a s'.o)
abbrev s__law_taken : Stmt := topS 19
theorem sc__law_taken : FnScope ["_law_s", "_law_most", "_law_found", "_law_number_here"] ["_law_s", "_law_most"] (defScope s__law_taken) := ⟨rfl, rfl, rfl, by decide +kernel, rfl, by decide +kernel, by decide +kernel⟩
theorem small_log {k : Int} (h0 : 0 < k) (h1 : k ≤ 10 ^ 13) : k.natAbs.log2 < 9000 := by
  have h2 : k.natAbs < 2 ^ 50 := by omega
  have := PySem.Flt.log2_lt_of (k := 50) (by decide) h2
  omega
theorem i_subS' {K : PySem.W.Frag} {m : Mem} {Q : KM} {a : Addr} {i n : Int} {ns : List Int} (h : LsK K m a ns) (e : atI ns i = some n) (q : Q (.int n) m) : wSubS K (.ref a) (.int i) m Q := ⟨ns, n, h, e, q⟩
theorem i_lenS' {K : PySem.W.Frag} {m : Mem} {Q : KM} {a : Addr} {ns : List Int} (h : LsK K m a ns) (q : Q (.int ns.length) m) : wLenS K [.ref a] m Q := ⟨ns, h, q⟩
theorem atI_some {α : Type} {xs : List α} {i : Int} (h0 : 0 ≤ i) (h1 : i < xs.length) : ∃ x, atI xs i = some x := by
  have e : i = ((i.toNat : Nat) : Int) := by omega
  rw [e]
  exact ⟨xs[i.toNat]'(by omega), atI_nat (by simp [show i.toNat < xs.length by omega])⟩
theorem Dr.g_numbers {s : Dr} : valD s.kvs (.inr "numbers") = some (.ref s.sc) := by
  simp [valD, Dr.kvs, oddL, ofString_inj]
theorem Dr.g_at {s : Dr} : valD s.kvs (.inr "at") = some (.int s.at_) := by
  simp [valD, Dr.kvs, oddL, ofString_inj]
theorem Dr.g_size {s : Dr} : valD s.kvs (.inr "size") = some (.int s.size) := by
  simp [valD, Dr.kvs, oddL, ofString_inj]
theorem Dr.g_place {s : Dr} : valD s.kvs (.inr "place") = some (.int s.place) := by
  simp [valD, Dr.kvs, oddL, ofString_inj]
theorem Dr.g_turn {s : Dr} : valD s.kvs (.inr "turn") = some (.int s.turn) := by
  simp [valD, Dr.kvs, oddL, ofString_inj]
theorem Dr.g_talk {s : Dr} : valD s.kvs (.inr "talk") = some (.int s.talk) := by
  simp [valD, Dr.kvs, oddL, ofString_inj]
theorem Dr.g_rest {s : Dr} : valD s.kvs (.inr "rest") = some (.int s.rest) := by
  simp [valD, Dr.kvs, oddL, ofString_inj]
theorem Dr.g_names {s : Dr} : valD s.kvs (.inr "names") = some (.ref s.nm) := by
  simp [valD, Dr.kvs, oddL, ofString_inj]
theorem Dr.g_mixed {s : Dr} : valD s.kvs (.inr "mixed") = some (.int s.mixed) := by
  simp [valD, Dr.kvs, oddL, ofString_inj]
local macro_rules | `(tactic| wtm_at "get") => `(tactic| with_reducible first | exact Dr.g_rest | exact Dr.g_at | exact Dr.g_numbers | exact Dr.g_names | exact Dr.g_mixed | exact Dr.g_size | exact Dr.g_place | exact Dr.g_turn | exact Dr.g_talk | fail)
theorem Dr.p_rest {s : Dr} {v : Int} : putD s.kvs (.inr "rest") (.int v) = Dr.kvs { s with rest := v } := by
  cases h : s.odd <;> simp [putD, Dr.kvs, oddL, ofString_inj, h]
theorem Dr.p_at {s : Dr} {v : Int} : putD s.kvs (.inr "at") (.int v) = Dr.kvs { s with at_ := v } := by
  cases h : s.odd <;> simp [putD, Dr.kvs, oddL, ofString_inj, h]
theorem Dr.p_mixed {s : Dr} {v : Int} : putD s.kvs (.inr "mixed") (.int v) = Dr.kvs { s with mixed := v } := by
  cases h : s.odd <;> simp [putD, Dr.kvs, oddL, ofString_inj, h]
theorem Dr.p_names {s : Dr} {v : Addr} : putD s.kvs (.inr "names") (.ref v) = Dr.kvs { s with nm := v } := by
  cases h : s.odd <;> simp [putD, Dr.kvs, oddL, ofString_inj, h]
theorem Dr.p_size {s : Dr} {v : Int} : putD s.kvs (.inr "size") (.int v) = Dr.kvs { s with size := v } := by
  cases h : s.odd <;> simp [putD, Dr.kvs, oddL, ofString_inj, h]
theorem Dr.p_place {s : Dr} {v : Int} : putD s.kvs (.inr "place") (.int v) = Dr.kvs { s with place := v } := by
  cases h : s.odd <;> simp [putD, Dr.kvs, oddL, ofString_inj, h]
theorem Dr.p_turn {s : Dr} {v : Int} : putD s.kvs (.inr "turn") (.int v) = Dr.kvs { s with turn := v } := by
  cases h : s.odd <;> simp [putD, Dr.kvs, oddL, ofString_inj, h]
theorem Dr.p_talk {s : Dr} {v : Int} : putD s.kvs (.inr "talk") (.int v) = Dr.kvs { s with talk := v } := by
  cases h : s.odd <;> simp [putD, Dr.kvs, oddL, ofString_inj, h]
theorem Dr.len {s : Dr} : s.kvs.length < sizeLine := by
  have : s.kvs.length ≤ 10 := by cases h : s.odd <;> simp [Dr.kvs, oddL, h]
  exact Nat.lt_of_le_of_lt this (by decide)
theorem ok_law_taken (Z : Bl mg) {k : Nat} {f__law_taken : Addr} {fd__law_taken : FuncData} (F : Fun K "_law_taken" "_law_taken" s__law_taken f__law_taken fd__law_taken) : FnM P w K mg base CX0 (k + 1) f__law_taken fd__law_taken ["_law_s", "_law_most"] (spTaken K) := by
  refine fn_m F sc__law_taken (fun ds m Q E h => ?_) (fun cdv A outer s H ds m Q E E' hr h => ?_)
  · obtain ⟨a, k, s, rfl, _⟩ := h; rfl
  have nd := sc__law_taken.nd
  obtain ⟨a, n, s, rfl, I, h0, h1, q⟩ := h
  refine ⟨_, (mss_cons (ms_if (mt_cmp mo_gt (mx_ix (mi_sub hr) (mv 0) mx_str) mx_int (nomark _)) (mss_cons (ms_set (i := 2) nd rfl (.inl rfl) (mx_op mo_mod (mx_ix (mi_sub hr) (mv 0) mx_str) (mv 1)))
    (mss_cons (ms_dput (hu1 hr) (mv 0) mx_str (mx_op mo_div (mx_ix (mi_sub hr) (mv 0) mx_str) (mv 1)))
    (mss_one (ms_ret (mv 2))))) mss_nil)
    (mss_cons (ms_dput (hu1 hr) (mv 0) mx_str (mx_op mo_plus (mx_ix (mi_sub hr) (mv 0) mx_str) mx_int))
    (mss_cons (ms_if (mt_cmp mo_le (mx_ix (mi_sub hr) (mv 0) mx_str) (mx_callB mc_lenS Z.b_len (ma_cons (mx_ix (mi_sub hr) (mv 0) mx_str) ma_nil)) (nomark _)) (mss_cons (ms_set (i := 3) nd rfl (.inl rfl) (mx_ix mi_subS (mx_ix (mi_sub hr) (mv 0) mx_str) (mx_op mo_sub (mx_ix (mi_sub hr) (mv 0) mx_str) mx_int)))
    (mss_cons (ms_dput (hu1 hr) (mv 0) mx_str (mx_op mo_times (mx_op mo_div (mv 3) (mv 1)) (mx_callTy mc_int1 Z.b_int (ma_cons (mx_cmp mo_ge (mv 3) (mx_op mo_pow mx_int mx_int) (nomark _)) ma_nil))))
    (mss_one (ms_ret (mx_op mo_mod (mv 3) (mv 1)))))) mss_nil)
    (mss_cons (ms_dput (hu1 hr) (mv 0) mx_str (mx_op mo_mod (mx_op mo_times (mx_ix (mi_sub hr) (mv 0) mx_str) mx_int) mx_int))
    (mss_one (ms_ret (mx_if (mt_cmp mo_gt (mv 1) (mx_op mo_pow mx_int mx_int) (nomark _)) (mx_op mo_mod (mx_op mo_pow (mx_op mo_div (mx_ix (mi_sub hr) (mv 0) mx_str) mx_int) mx_int) (mv 1)) (mx_op mo_mod (mx_op mo_div (mx_ix (mi_sub hr) (mv 0) mx_str) mx_int) (mv 1))))))))), ?_⟩
  have e0 : m a = some (.dK s.kvs) := I.e
  have re : rdM m a = some (.dK s.kvs) := I.rd
  obtain ⟨ns, hL, hz⟩ := I.sc
  have fin : ∀ (r at' rest' mixed' : Int), 0 ≤ r → r < n → 0 ≤ at' → 0 ≤ rest' → 0 ≤ mixed' → mixed' < 2147483647 → Q (.int r) (mput m a (.dK (Dr.kvs { s with at_ := at', rest := rest', mixed := mixed' }))) := fun r at' rest' mixed' h2 h3 h4 h5 h6 h7 =>
    q r _ h2 h3 ⟨rfl, rfl, rfl, rfl, rfl, rfl, rfl⟩ (I.put rfl h4 h5 h6 h7)
  have hat := I.at0
  have hrest := I.rest0
  have hm0 := I.mix0
  have hm1 := I.mix1
  have hlog := small_log h0 h1
  wtm_at "go"
  refine i_ite (fun c => ?_) (fun c => ?_)
  · have c' : 0 < s.rest := of_decide_eq_true c
    wtm_at "go"
    refine i_putK e0 Dr.len ?_
    rw [Dr.p_rest]
    wtm_at "go"
    refine RtM.mk (fin _ _ _ _ (Int.emod_nonneg _ (by wtm_at "om")) (Int.emod_lt_of_pos _ h0) hat (Int.ediv_nonneg hrest (by wtm_at "om")) hm0 hm1)
  · wtm_at "go"
    refine i_putK e0 Dr.len ?_
    rw [Dr.p_at]
    wtm_at "go"
    have hL1 : LsK K (mput m a (.dK (Dr.kvs { s with at_ := s.at_ + 1 }))) s.sc ns := hL.putD e0 fun ds z => by rw [re] at z; cases z
    refine i_lenS' hL1 ?_
    wtm_at "go"
    refine i_ite (fun c => ?_) (fun c => ?_)
    · have c' : s.at_ + 1 ≤ ns.length := of_decide_eq_true c
      wtm_at "go"
      obtain ⟨v, hv⟩ := atI_some (xs := ns) (i := s.at_ + 1 - 1) (by wtm_at "om") (by wtm_at "om")
      refine i_subS' hL1 hv ?_
      wtm_at "go"
      refine i_putK mput_same Dr.len ?_
      rw [Dr.p_rest, mput_mput]
      wtm_at "go"
      refine RtM.mk (fin _ _ _ _ (Int.emod_nonneg _ (by wtm_at "om")) (Int.emod_lt_of_pos _ h0) (by wtm_at "om") ?_ hm0 hm1)
      by_cases cv : 10 ^ (18 : Int).toNat ≤ v
      · rw [decide_eq_true cv]
        have : 0 ≤ v := Int.le_trans (by decide) cv
        have := Int.ediv_nonneg this (show 0 ≤ n by omega)
        simpa using this
      · rw [decide_eq_false cv]; simp
    · wtm_at "go"
      refine i_putK mput_same Dr.len ?_
      rw [Dr.p_mixed, mput_mput]
      wtm_at "go"
      have g0 : 0 ≤ s.mixed * 48271 % 2147483647 := Int.emod_nonneg _ (by decide)
      have g1 : s.mixed * 48271 % 2147483647 < 2147483647 := Int.emod_lt_of_pos _ (by decide)
      refine i_ite (fun c => ?_) (fun c => ?_)
      · wtm_at "go"
        refine RtM.mk (fin _ _ _ _ (Int.emod_nonneg _ (by wtm_at "om")) (Int.emod_lt_of_pos _ h0) (by wtm_at "om") hrest g0 g1)
      · wtm_at "go"
        refine RtM.mk (fin _ _ _ _ (Int.emod_nonneg _ (by wtm_at "om")) (Int.emod_lt_of_pos _ h0) (by wtm_at "om") hrest g0 g1)
theorem DrI.put' {K : PySem.W.Frag} {m : Mem} {a : Addr} {s s' s2 : Dr} (h : DrI K (mput m a s.o) a s') (e : mput (mput m a s.o) a s2.o = mput m a s2.o := mput_mput) : True := trivial
/-- what a drawing that makes nothing new leaves: only the draw goes on -/
def DrQ (K : PySem.W.Frag) (a : Addr) (s : Dr) (m : Mem) (C : D → Prop) (Q : KM) : Prop := ∀ d s', C d → s.nx s' → DrI K (mput m a s'.o) a s' → Q d (mput m a s'.o)
theorem spTaken.mk {K : PySem.W.Frag} {m : Mem} {Q : KM} {Em : XM} {a : Addr} {k : Int} {s : Dr} (I : DrI K m a s) (h0 : 0 < k) (h1 : k ≤ 10 ^ 13)
    (q : ∀ r s', 0 ≤ r → r < k → s.nx s' → DrI K (mput m a s'.o) a s' → Q (.int r) (mput m a s'.o)) : spTaken K [.ref a, .int k] m Q Em := ⟨a, k, s, rfl, I, h0, h1, q⟩
def spNumber (K : PySem.W.Frag) : SpM := fun ds m Q _ => ∃ (a : Addr) (s : Dr), ds = [.ref a] ∧ DrI K m a s ∧
  ∀ (v : Int) s', v.natAbs < 10 ^ 12 → s.nx s' → DrI K (mput m a s'.o) a s' → Q (.int v) (mput m a s'.o)
abbrev s__law_number : Stmt := topS 21
theorem sc__law_number : FnScope ["_law_s"] ["_law_s"] (defScope s__law_number) := ⟨rfl, rfl, rfl, by decide +kernel, rfl, by decide +kernel, by decide +kernel⟩
theorem ok_law_number {k : Nat} {f__law_taken : Addr} {fd__law_taken : FuncData} (D__law_taken : Df K mg "_law_taken" f__law_taken fd__law_taken ["_law_s", "_law_most"]) (G__law_taken : FnM P w K mg base CX0 (k) f__law_taken fd__law_taken ["_law_s", "_law_most"] (spTaken K)) {f__law_number : Addr} {fd__law_number : FuncData} (F : Fun K "_law_number" "_law_number" s__law_number f__law_number fd__law_number) : FnM P w K mg base CX0 (k + 1) f__law_number fd__law_number ["_law_s"] (spNumber K) := by
  refine fn_m F sc__law_number (fun ds m Q E h => ?_) (fun cdv A outer s H ds m Q E E' hr h => ?_)
  · obtain ⟨a, s, rfl, _⟩ := h; rfl
  have nd := sc__law_number.nd
  obtain ⟨a, s, rfl, I, q⟩ := h
  refine ⟨_, (mss_cons (ms_if (mt_cmp (mo_eqq hr) (mx_call (Em := noX) G__law_taken hr D__law_taken.m D__law_taken.k D__law_taken.b pass0M (ma_cons (mv 0) (ma_cons mx_int ma_nil))) mx_int (nomark _)) (mss_one (ms_ret (mx_op mo_plus (mx_op mo_sub (mx_call (Em := noX) G__law_taken hr D__law_taken.m D__law_taken.k D__law_taken.b pass0M (ma_cons (mv 0) (ma_cons (mx_op mo_sub (mx_op mo_times mx_int (mx_op mo_pow mx_int mx_int)) mx_int) ma_nil))) (mx_op mo_pow mx_int mx_int)) mx_int))) mss_nil)
    (mss_one (ms_ret (mx_op mo_sub (mx_call (Em := noX) G__law_taken hr D__law_taken.m D__law_taken.k D__law_taken.b pass0M (ma_cons (mv 0) (ma_cons mx_int ma_nil))) mx_int)))), ?_⟩
  wtm_at "go"
  refine spTaken.mk I (by decide) (by decide) fun r s1 h0 h1 n1 I1 => ?_
  wtm_at "go"
  refine i_ite (fun c => ?_) (fun c => ?_)
  · wtm_at "go"
    refine spTaken.mk I1 (by decide) (by decide) fun r s2 h0 h1 n2 I2 => ?_
    rw [mput_mput] at I2 ⊢
    wtm_at "go"
    have e12 : (10 : Int) ^ Int.toNat 12 = 1000000000000 := rfl
    exact RtM.mk (q _ _ (by omega) (Dr.nx_trans n1 n2) I2)
  · wtm_at "go"
    refine spTaken.mk I1 (by decide) (by decide) fun r s2 h0 h1 n2 I2 => ?_
    rw [mput_mput] at I2 ⊢
    wtm_at "go"
    exact RtM.mk (q _ _ (by omega) (Dr.nx_trans n1 n2) I2)

theorem Sub.put {m m' : Mem} {a : Addr} {o : O} (h : Sub m m') : Sub (mput m a o) (mput m' a o) := fun b u e => by
  by_cases c : b = a
  · subst c; rw [mput_same] at e ⊢; exact e
  · rw [mput_ne c] at e ⊢; exact h b u e
theorem Sub.new {m m' : Mem} {p : Addr} {o : O} (h : Sub m m') (hp : m' p = none) : Sub m (mput m' p o) := fun b u e => mput_new hp (h b u e)
theorem atI_mem {α : Type} {xs : List α} {i : Int} {x : α} (h : atI xs i = some x) : x ∈ xs := by
  unfold atI at h
  cases q : ixN xs.length i with
  | none => rw [q] at h; cases h
  | some j =>
    rw [q] at h
    exact List.mem_of_getElem? h
theorem RtM.sub {Q : KM} {d : D} {m m' : Mem} (s : Sub m m') (h : Q d m) : RtM Q d m' := ⟨m, s, h⟩
/-- the names that the draw holds -/
def DrN (m : Mem) (s : Dr) (nms : List Str) : Prop := rdM m s.nm = some (.lst (nms.map D.str)) ∧ nms.length ≤ 20
theorem DrN.put {K : PySem.W.Frag} {m : Mem} {a : Addr} {s s' : Dr} {nms : List Str} (h : DrN m s nms) (I : DrI K m a s) (n : s.nx s') : DrN (mput m a s'.o) s' nms := by
  refine ⟨?_, h.2⟩
  rw [n.2.1]
  have h1 := h.1
  have ne : s.nm ≠ a := by
    intro e
    rw [e, I.rd] at h1; cases h1
  unfold rdM at h1 ⊢
  rw [mput_ne ne]; exact h1
theorem rdM_new {m : Mem} {p a : Addr} {o u : O} (hp : m p = none) (h : rdM m a = some u) : rdM (mput m p o) a = some u := by
  unfold rdM at h ⊢
  rw [mput_ne]; exact h
  rintro rfl; rw [hp] at h; cases h
theorem rdM_off {m : Mem} {p a : Addr} {o u : O} (hp : a ≠ p) (h : rdM m a = some u) : rdM (mput m p o) a = some u := by
  unfold rdM at h ⊢
  rw [mput_ne hp]; exact h
theorem DrN.new {m : Mem} {p : Addr} {o : O} {s : Dr} {nms : List Str} (h : DrN m s nms) (hp : m p = none) : DrN (mput m p o) s nms := ⟨rdM_new hp h.1, h.2⟩
/-- told of names -/
def Told.of (nms : List Str) : Told → Prop
  | .num i => i.natAbs < 10 ^ 12
  | .read x => x ∈ nms
  | .bin _ a b => a.of nms ∧ b.of nms
def spTold (K : PySem.W.Frag) (n : Nat) : SpM := fun ds m Q _ => ∃ (a : Addr) (s : Dr) (nms : List Str) (dp : Nat), ds = [.ref a, .int dp] ∧ dp < n ∧ DrI K m a s ∧ DrN m s nms ∧
  ∀ (t : Told) s', t.dp ≤ dp → t.of nms → s.nx s' → DrI K (mput m a s'.o) a s' → Q t.d (mput m a s'.o)
/-- the draw as it begins -/
structure DrB (s : Dr) : Prop where
  z0 : 1 ≤ s.size
  z1 : s.size ≤ 8
  p0 : 0 ≤ s.place
  p1 : s.place < s.size
  t0 : 0 ≤ s.turn
  t1 : s.turn < 26
  k : s.talk = 0 ∨ s.talk = 1
theorem DrB.nx {s s' : Dr} (b : DrB s) (n : s.nx s') : DrB s' := by
  obtain ⟨_, _, h1, h2, h3, h4, _⟩ := n
  obtain ⟨b1, b2, b3, b4, b5, b6, b7⟩ := b
  exact ⟨by omega, by omega, by omega, by omega, by omega, by omega, by omega⟩
def spBegun (K : PySem.W.Frag) : SpM := fun ds m Q _ => ∃ (c : Addr) (ns : List Int), ds = [.ref c] ∧ LsK K m c ns ∧ ns.length ≤ 63 ∧
  ∀ a s m', m' a = some s.o → m a = none → Sub m m' → DrI K m' a s → DrB s → DrN m' s [] → s.nm ≠ a → s.odd = none → Q (.ref a) m'
abbrev s__law_begun : Stmt := topS 18
theorem sc__law_begun : FnScope ["_law_script", "_law_mixed", "_law_cell", "_law_s"] ["_law_script"] (defScope s__law_begun) := ⟨rfl, rfl, rfl, by decide +kernel, rfl, by decide +kernel, by decide +kernel⟩
theorem LsK.sub {K : PySem.W.Frag} {m m' : Mem} {a : Addr} {ns : List Int} (h : LsK K m a ns) (s : Sub m m') : LsK K m' a ns := by
  rcases h with h | h
  · refine .inl ?_
    unfold rdM at h ⊢
    cases e : m a with
    | none => rw [e] at h; cases h
    | some o => rw [e] at h; rw [s _ _ e]; exact h
  · exact .inr h
theorem Dr.put_names {s : Dr} {x : Addr} : putD (List.take 7 s.kvs) (.inr "names") (.ref x) = List.take 8 (Dr.kvs { s with nm := x }) := by
  cases h' : s.odd <;> simp [putD, Dr.kvs, oddL, ofString_inj, h']
theorem Dr.put_mixed {s : Dr} {x : Int} (h : s.odd = none) : putD (List.take 8 s.kvs) (.inr "mixed") (.int x) = Dr.kvs { s with mixed := x } := by
  simp [putD, Dr.kvs, oddL, ofString_inj, h]
theorem ok_law_begun {k : Nat} (Z : Bl mg) {f__law_taken : Addr} {fd__law_taken : FuncData} (D__law_taken : Df K mg "_law_taken" f__law_taken fd__law_taken ["_law_s", "_law_most"]) (G__law_taken : FnM P w K mg base CX0 (k) f__law_taken fd__law_taken ["_law_s", "_law_most"] (spTaken K)) (F : Fun K "_law_begun" "_law_begun" s__law_begun f__law_begun fd__law_begun) : FnM P w K mg base CX0 (k + 1) f__law_begun fd__law_begun ["_law_script"] (spBegun K) := by
  refine fn_m F sc__law_begun (fun ds m Q E h => ?_) (fun cdv A outer s H ds m Q E E' hr h => ?_)
  · obtain ⟨a, s, rfl, _⟩ := h; rfl
  have nd := sc__law_begun.nd
  obtain ⟨c, ns, rfl, hL, hl, q⟩ := h
  refine ⟨_, (mss_cons (ms_set (i := 1) nd rfl (.inl rfl) mx_int)
    (mss_cons (ms_for PassesOwn.never rfl (mi_listS (mv 0)) (mg_name (i := 2) nd rfl (.inl rfl)) (mss_one (ms_set (i := 1) nd rfl (.inl rfl) (mx_op mo_mod (mx_op mo_plus (mx_op mo_plus (mx_op mo_times (mv 1) mx_int) (mx_op mo_times (mv 2) mx_int)) mx_int) mx_int))))
    (mss_cons (ms_set (i := 3) nd rfl (.inl rfl) (mx_disp (mps_cons mx_str (mv 0) (mps_cons mx_str mx_int (mps_cons mx_str mx_int (mps_cons mx_str mx_int (mps_cons mx_str mx_int (mps_cons mx_str mx_int (mps_cons mx_str mx_int mps_nil)))))))))
    (mss_cons (ms_dput (hu1 hr) (mv 3) mx_str (mx_lst ma_nil))
    (mss_cons (ms_dput (hu1 hr) (mv 3) mx_str (mx_op mo_times (mv 1) (mx_callTy mc_int1 Z.b_int (ma_cons (mx_cmp mo_gt (mx_callB mc_lenS Z.b_len (ma_cons (mv 0) ma_nil)) mx_int (nomark _)) ma_nil))))
    (mss_cons (ms_dput (hu1 hr) (mv 3) mx_str (mx_op mo_plus mx_int (mx_call (Em := noX) G__law_taken hr D__law_taken.m D__law_taken.k D__law_taken.b pass0M (ma_cons (mv 3) (ma_cons mx_int ma_nil)))))
    (mss_cons (ms_dput (hu1 hr) (mv 3) mx_str (mx_call (Em := noX) G__law_taken hr D__law_taken.m D__law_taken.k D__law_taken.b pass0M (ma_cons (mv 3) (ma_cons (mx_ix (mi_sub hr) (mv 3) mx_str) ma_nil))))
    (mss_cons (ms_dput (hu1 hr) (mv 3) mx_str (mx_call (Em := noX) G__law_taken hr D__law_taken.m D__law_taken.k D__law_taken.b pass0M (ma_cons (mv 3) (ma_cons mx_int ma_nil))))
    (mss_cons (ms_dput (hu1 hr) (mv 3) mx_str (mx_callTy mc_int1 Z.b_int (ma_cons (mx_cmp (mo_eqq hr) (mx_call (Em := noX) G__law_taken hr D__law_taken.m D__law_taken.k D__law_taken.b pass0M (ma_cons (mv 3) (ma_cons mx_int ma_nil))) mx_int (nomark _)) ma_nil)))
    (mss_one (ms_ret (mv 3)))))))))))), ?_⟩
  wtm_at "go"
  refine ⟨ns, hL, ?_⟩
  refine forC_ind (fun r ρ m' => m' = m ∧ ∃ (x : Int) (e : Option D), 0 ≤ x ∧ x < 2147483647 ∧ ρ = [some (.ref c), some (.int x), e, none] ∧ ∀ d ∈ r, ∃ i, d = .int i) ⟨rfl, 0, none, by decide, by decide, rfl, fun d hd => ?_⟩ ?_ ?_
  · obtain ⟨i, _, rfl⟩ := List.mem_map.mp hd; exact ⟨i, rfl⟩
  · rintro ρ m' ⟨rfl, x, e, x0, x1, rfl, -⟩
    refine ⟨hL, ?_⟩
    wtm_at "go"
    rintro a ha
    have eD : mergeD [] (List.map keyP [(.str (Str.ofString "numbers"), .ref c), (.str (Str.ofString "at"), .int 0), (.str (Str.ofString "size"), .int 1), (.str (Str.ofString "place"), .int 0), (.str (Str.ofString "turn"), .int 0), (.str (Str.ofString "talk"), .int 0), (.str (Str.ofString "rest"), .int 0)]) = List.take 7 (Dr.kvs { sc := c, nm := 0, at_ := 0, size := 1, place := 0, turn := 0, talk := 0, rest := 0, mixed := 0, odd := none }) := by
      simp [mergeD, keyP, putD, Dr.kvs, oddL, ofString_inj]
    rw [eD]
    wtm_at "go"
    intro p hp
    wtm_at "go"
    refine i_putK (mput_new hp mput_same) (by show 7 < sizeLine; decide) ?_
    rw [Dr.put_names]
    wtm_at "go"
    have ne : p ≠ a := by rintro rfl; rw [mput_same] at hp; cases hp
    have hL2 : ∀ o u o2, LsK K (mput (mput (mput m' a o) p u) a o2) c ns := fun o u o2 => by
      have h3 : Sub m' (mput (mput (mput m' a o) p u) a o2) := by
        intro b v e
        have n1 : b ≠ a := by rintro rfl; rw [ha] at e; cases e
        have n2 : b ≠ p := by
          rintro rfl
          rw [mput_ne ne] at hp; rw [hp] at e; cases e
        rw [mput_ne n1, mput_ne n2, mput_ne n1]; exact e
      exact hL.sub h3
    refine i_lenS' (hL2 _ _ _) ?_
    wtm_at "go"
    refine i_putK mput_same (by show 8 < sizeLine; decide) ?_
    rw [Dr.put_mixed rfl, mput_mput]
    generalize hsq : ({ sc := c, nm := p, at_ := 0, size := 1, place := 0, turn := 0, talk := 0, rest := 0, mixed := x * (if decide (2 < (ns.length : Int)) = true then 1 else 0), odd := none } : Dr) = s0
    generalize hM : mput (mput (mput m' a _) p (O.lst [])) a (.dK s0.kvs) = M
    have e0 : M a = some s0.o := by rw [← hM]; exact mput_same
    have I0 : DrI K M a s0 := by
      refine ⟨e0, ⟨ns, by subst hsq; rw [← hM]; exact hL2 _ _ _, hl⟩, by subst hsq; exact Int.le_refl 0, by subst hsq; exact Int.le_refl 0, ?_, ?_⟩
      · subst hsq; show 0 ≤ x * _; split <;> omega
      · subst hsq; show x * _ < _; split <;> omega
    have N0 : DrN M s0 [] := by
      refine ⟨?_, Nat.zero_le _⟩
      have : M p = some (.lst []) := by rw [← hM, mput_ne ne, mput_same]
      subst hsq
      exact rd_L this
    have S0 : Sub m' M := by
      intro b v e
      have n1 : b ≠ a := by rintro rfl; rw [ha] at e; cases e
      have n2 : b ≠ p := by
        rintro rfl
        rw [mput_ne ne] at hp; rw [hp] at e; cases e
      rw [← hM, mput_ne n1, mput_ne n2, mput_ne n1]; exact e
    have k0 : s0.nm ≠ a := by subst hsq; exact ne
    have e1 : ∀ s' s2 : Dr, mput (mput M a s'.o) a s2.o = mput M a s2.o := fun _ _ => mput_mput
    clear hM eD hL2
    have hodd : s0.odd = none := by subst hsq; rfl
    clear hsq
    have I0e := I0.e
    have I0r := I0.rd
    wtm_at "go"
    refine spTaken.mk I0 (by decide) (by decide) fun v1 s1 h1 g1 n1 I1 => ?_
    simp only [e1] at I1 ⊢
    have I1e := I1.e
    have I1r := I1.rd
    wtm_at "go"
    refine i_putK I1.e Dr.len ?_
    rw [Dr.p_size]
    have J1 := I1.put (s' := { s1 with size := 1 + v1 }) rfl I1.at0 I1.rest0 I1.mix0 I1.mix1
    have E1 := e1 s1 { s1 with size := 1 + v1 }
    rw [E1] at J1
    rw [show mput (mput M a s1.o) a (.dK (Dr.kvs { s1 with size := 1 + v1 })) = _ from E1]
    have J1e := J1.e
    have J1r := J1.rd
    wtm_at "go"
    refine spTaken.mk J1 (show 0 < 1 + v1 by omega) (show 1 + v1 ≤ _ by omega) fun v2 s2 h2 g2 n2 I2 => ?_
    simp only [e1] at I2 ⊢
    have I2e := I2.e
    have I2r := I2.rd
    wtm_at "go"
    refine i_putK I2.e Dr.len ?_
    rw [Dr.p_place]
    have J2 := I2.put (s' := { s2 with place := v2 }) rfl I2.at0 I2.rest0 I2.mix0 I2.mix1
    have E2 := e1 s2 { s2 with place := v2 }
    rw [E2] at J2
    rw [show mput (mput M a s2.o) a (.dK (Dr.kvs { s2 with place := v2 })) = _ from E2]
    have J2e := J2.e
    have J2r := J2.rd
    wtm_at "go"
    refine spTaken.mk J2 (by decide) (by decide) fun v3 s3 h3 g3 n3 I3 => ?_
    simp only [e1] at I3 ⊢
    have I3e := I3.e
    have I3r := I3.rd
    wtm_at "go"
    refine i_putK I3.e Dr.len ?_
    rw [Dr.p_turn]
    have J3 := I3.put (s' := { s3 with turn := v3 }) rfl I3.at0 I3.rest0 I3.mix0 I3.mix1
    have E3 := e1 s3 { s3 with turn := v3 }
    rw [E3] at J3
    rw [show mput (mput M a s3.o) a (.dK (Dr.kvs { s3 with turn := v3 })) = _ from E3]
    have J3e := J3.e
    have J3r := J3.rd
    wtm_at "go"
    refine spTaken.mk J3 (by decide) (by decide) fun v4 s4 h4 g4 n4 I4 => ?_
    simp only [e1] at I4 ⊢
    have I4e := I4.e
    have I4r := I4.rd
    wtm_at "go"
    refine i_putK I4.e Dr.len ?_
    rw [Dr.p_talk]
    have J4 := I4.put (s' := { s4 with talk := (if decide (v4 = 8) = true then 1 else 0) }) rfl I4.at0 I4.rest0 I4.mix0 I4.mix1
    have E4 := e1 s4 { s4 with talk := (if decide (v4 = 8) = true then 1 else 0) }
    rw [E4] at J4
    rw [show mput (mput M a s4.o) a (.dK (Dr.kvs { s4 with talk := (if decide (v4 = 8) = true then 1 else 0) })) = _ from E4]
    have J4e := J4.e
    have J4r := J4.rd
    wtm_at "go"
    dsimp only at g2
    obtain ⟨a1, b1, c1, d1, t1, l1, o1⟩ := n1
    obtain ⟨a2, b2, c2, d2, t2, l2, o2⟩ := n2
    obtain ⟨a3, b3, c3, d3, t3, l3, o3⟩ := n3
    obtain ⟨a4, b4, c4, d4, t4, l4, o4⟩ := n4
    dsimp only at a1 b1 c1 d1 t1 l1 o1 a2 b2 c2 d2 t2 l2 o2 a3 b3 c3 d3 t3 l3 o3 a4 b4 c4 d4 t4 l4 o4
    have odE : s4.odd = none := by rw [o4, o3, o2, o1]; exact hodd
    have nmE : s4.nm = s0.nm := by rw [b4, b3, b2, b1]
    refine RtM.mk (q a _ _ J4e ha (fun b o e => ?_) J4 ⟨?_, ?_, ?_, ?_, ?_, ?_, ?_⟩ ⟨?_, Nat.zero_le _⟩ ?_ odE)
    · rw [mput_ne]
      · exact S0 b o e
      · rintro rfl; rw [ha] at e; cases e
    · show 1 ≤ s4.size; omega
    · show s4.size ≤ 8; omega
    · show 0 ≤ s4.place; omega
    · show s4.place < s4.size; omega
    · show 0 ≤ s4.turn; omega
    · show s4.turn < 26; omega
    · show (if decide (v4 = 8) = true then (1 : Int) else 0) = 0 ∨ (if decide (v4 = 8) = true then (1 : Int) else 0) = 1
      split
      · exact .inr rfl
      · exact .inl rfl
    · show rdM _ s4.nm = _
      rw [nmE]
      exact rdM_off k0 N0.1
    · show s4.nm ≠ a
      rw [nmE]; exact k0
  · rintro d r ρ m' L hK ⟨rfl, x, e, x0, x1, rfl, hd⟩
    obtain ⟨i, rfl⟩ := hd _ (.head _)
    refine ⟨hL, ?_⟩
    wtm_at "go"
    exact hK _ _ ⟨rfl, _, _, Int.emod_nonneg _ (by decide), Int.emod_lt_of_pos _ (by decide), rfl, fun d h => hd d (.tail _ h)⟩

/-! ### words that are drawn -/
def talkWords : List Str := ["none", "give", "both", "turned", "later", "often", "if", "num", "read", "plus", "below", "all"]
def sgnOf (i : Int) : Str := ⟨#[(97 + i).toNat]⟩
def wordOf (s : Dr) (k : Int) : Str := if s.talk = 1 ∧ k < 12 then (talkWords[k.toNat]?).getD "" else Txt.mul "q" s.place ++ sgnOf ((k + s.turn) % 26) ++ Txt.mul "q" (s.size - s.place - 1)
def spWord (K : PySem.W.Frag) : SpM := fun ds m Q _ => ∃ (a : Addr) (s : Dr) (k : Int), ds = [.ref a, .int k] ∧ rdM m a = some s.o ∧ DrB s ∧ 0 ≤ k ∧ Q (.str (wordOf s k)) m
theorem len_q {n : Int} (h : 0 ≤ n) : (Txt.mul "q" n).length = n.toNat := by
  have := PyProof.Rows.len_mul "q" n
  rw [decide_eq_false (by omega)] at this
  have e : (Str.ofString "q").length = 1 := by decide +kernel
  rw [e] at this
  simp at this
  omega
theorem abc_at : ∀ i : Nat, i < 26 → atI (Str.ofString "abcdefghijklmnopqrstuvwxyz").cps.toList (i : Int) = some (97 + i) := by
  decide +kernel
abbrev s__law_word : Stmt := topS 20
theorem sc__law_word : FnScope ["_law_s", "_law_k", "_law_words", "_law_sign"] ["_law_s", "_law_k"] (defScope s__law_word) := ⟨rfl, rfl, rfl, by decide +kernel, rfl, by decide +kernel, by decide +kernel⟩
theorem ok_law_word {k : Nat} (Z : Bl mg) (F : Fun K "_law_word" "_law_word" s__law_word f__law_word fd__law_word) : FnM P w K mg base CX0 (k + 1) f__law_word fd__law_word ["_law_s", "_law_k"] (spWord K) := by
  refine fn_m F sc__law_word (fun ds m Q E h => ?_) (fun cdv A outer s H ds m Q E E' hr h => ?_)
  · obtain ⟨a, s, n, rfl, _⟩ := h; rfl
  have nd := sc__law_word.nd
  obtain ⟨a, s, n, rfl, hR, B, h0, q⟩ := h
  refine ⟨_, (mss_cons (ms_if (mw_pt (mw_and (mt_cmp (mo_eqq hr) (mx_ix (mi_sub hr) (mv 0) mx_str) mx_int (nomark _)) (mw_and1 (mt_cmp mo_lt (mv 1) mx_int (nomark _))))) (mss_cons (ms_set (i := 2) nd rfl (.inl rfl) (mx_lst (ma_cons mx_str (ma_cons mx_str (ma_cons mx_str (ma_cons mx_str (ma_cons mx_str (ma_cons mx_str (ma_cons mx_str (ma_cons mx_str (ma_cons mx_str (ma_cons mx_str (ma_cons mx_str (ma_cons mx_str ma_nil))))))))))))))
    (mss_one (ms_ret (mx_ix (mi_sub hr) (mv 2) (mv 1))))) mss_nil)
    (mss_cons (ms_set (i := 3) nd rfl (.inl rfl) (mx_ix (mi_sub hr) mx_str (mx_op mo_mod (mx_op mo_plus (mv 1) (mx_ix (mi_sub hr) (mv 0) mx_str)) mx_int)))
    (mss_one (ms_ret (mx_op mo_plus (mx_op mo_plus (mx_op mo_times mx_str (mx_ix (mi_sub hr) (mv 0) mx_str)) (mv 3)) (mx_op mo_times mx_str (mx_op mo_sub (mx_op mo_sub (mx_ix (mi_sub hr) (mv 0) mx_str) (mx_ix (mi_sub hr) (mv 0) mx_str)) mx_int))))))), ?_⟩
  have tail : s.talk ≠ 1 ∨ ¬ n < 12 → Q (.str (Txt.mul "q" s.place ++ sgnOf ((n + s.turn) % 26) ++ Txt.mul "q" (s.size - s.place - 1))) m := fun h => by
    have e : wordOf s n = _ := if_neg (fun z => by rcases h with h | h; exact h z.1; exact h z.2)
    rw [e] at q; exact q
  have hz := B.z1
  have hp0 := B.p0
  have hp1 := B.p1
  have ht0 := B.t0
  have ht1 := B.t1
  have lq : (Str.ofString "q").length = 1 := by decide +kernel
  have mq : ∀ j : Int, 0 ≤ j → j ≤ 8 → MulOk (Str.ofString "q") j := fun j j0 j1 => by
    refine ⟨?_, fun _ h _ => ?_, fun _ _ => ?_⟩
    · simp; omega
    · rw [lq] at *
      have : j = 2 ∨ j = 3 ∨ j = 4 ∨ j = 5 ∨ j = 6 ∨ j = 7 ∨ j = 8 ∨ j ≤ 1 := by omega
      rcases this with rfl | rfl | rfl | rfl | rfl | rfl | rfl | h2 <;> first | decide | (simp at h; omega)
    · rw [lq]
      have : j.toNat < 9 := by omega
      refine decide_eq_false (Nat.not_lt.mpr (sl ?_))
      omega
  have hc : atI (Str.ofString "abcdefghijklmnopqrstuvwxyz").cps.toList ((n + s.turn) % 26) = some (97 + (n + s.turn) % 26).toNat := by
    have h1 : 0 ≤ (n + s.turn) % 26 := Int.emod_nonneg _ (by decide)
    have h2 : (n + s.turn) % 26 < 26 := Int.emod_lt_of_pos _ (by decide)
    have := abc_at ((n + s.turn) % 26).toNat (by omega)
    rw [show (((n + s.turn) % 26).toNat : Int) = (n + s.turn) % 26 by omega] at this
    rw [this]
    congr 1
    omega
  wtm_at "go"
  refine i_ite (fun c => ?_) (fun c => ?_)
  · have c1 : s.talk = 1 := of_decide_eq_true c
    wtm_at "go"
    refine i_ite (fun c' => ?_) (fun c' => ?_)
    · have c2 : n < 12 := of_decide_eq_true c'
      wtm_at "go"
      intro p hp
      have hx : atI (talkWords.map D.str) n = some (.str (wordOf s n)) := by
        have e : wordOf s n = _ := if_pos ⟨c1, c2⟩
        rw [e]
        have : n = 0 ∨ n = 1 ∨ n = 2 ∨ n = 3 ∨ n = 4 ∨ n = 5 ∨ n = 6 ∨ n = 7 ∨ n = 8 ∨ n = 9 ∨ n = 10 ∨ n = 11 := by omega
        rcases this with rfl | rfl | rfl | rfl | rfl | rfl | rfl | rfl | rfl | rfl | rfl | rfl <;> rfl
      wtm_at "go"
      refine i_subL (rd_L mput_same) hx ?_
      exact RtM.sub (Sub.refl.new hp) q
    · have c2 : ¬ n < 12 := of_decide_eq_false c'
      have q' := tail (.inr c2)
      wtm_at "go"
      refine i_subS (by rw [show (Str.ofString "abcdefghijklmnopqrstuvwxyz").length = 26 by decide +kernel]; decide) hc ?_
      wtm_at "go"
      refine i_timesS (mq _ hp0 (by omega)) ?_
      wtm_at "go"
      refine i_plusS (sl ?_) ?_
      · rw [len_q hp0]; show _ + 1 ≤ _; omega
      wtm_at "go"
      refine i_timesS (mq _ (by omega) (by omega)) ?_
      wtm_at "go"
      refine i_plusS (sl ?_) ?_
      · rw [PySem.Str.length_append, len_q hp0, len_q (by omega)]; show _ + 1 + _ ≤ _; omega
      exact RtM.mk q'
  · have c2 : ¬ s.talk = 1 := of_decide_eq_false c
    have q' := tail (.inl c2)
    wtm_at "go"
    refine i_subS (by rw [show (Str.ofString "abcdefghijklmnopqrstuvwxyz").length = 26 by decide +kernel]; decide) hc ?_
    wtm_at "go"
    refine i_timesS (mq _ hp0 (by omega)) ?_
    wtm_at "go"
    refine i_plusS (sl ?_) ?_
    · rw [len_q hp0]; show _ + 1 ≤ _; omega
    wtm_at "go"
    refine i_timesS (mq _ (by omega) (by omega)) ?_
    wtm_at "go"
    refine i_plusS (sl ?_) ?_
    · rw [PySem.Str.length_append, len_q hp0, len_q (by omega)]; show _ + 1 + _ ≤ _; omega
    exact RtM.mk q'

theorem rangeD_len {i : Int} {n : Nat} : (rangeD i n).length = n := by unfold rangeD; simp
theorem rangeD_mem {i : Int} {n : Nat} {d : D} (h : d ∈ rangeD i n) : ∃ j : Nat, j < n ∧ d = .int (i + j) := by
  unfold rangeD at h
  obtain ⟨j, hj, rfl⟩ := List.mem_map.mp h
  exact ⟨j, List.mem_range.mp hj, rfl⟩


/-! ### whether two things are alike: lists, tuples, dicts of flat things -/
inductive AlS : D → D → Bool → Prop
  | non : AlS .non .non true
  | bl (b c : Bool) : AlS (.bl b) (.bl c) (decide (b = c))
  | int (i j : Int) : AlS (.int i) (.int j) (decide (i = j))
  | str (x y : Str) : AlS (.str x) (.str y) (decide (x = y))
inductive AlK (ks : List (Key × D)) : List (Key × D) → List Bool → Prop
  | nil : AlK ks [] []
  | hit {k : Key} {d v : D} {ls : List (Key × D)} {b : Bool} {bs : List Bool} : valD ks k = some v → AlS v d b → AlK ks ls bs → AlK ks ((k, d) :: ls) (b :: bs)
  | miss {k : Key} {d : D} {ls : List (Key × D)} {bs : List Bool} : valD ks k = none → AlK ks ls bs → AlK ks ((k, d) :: ls) (false :: bs)
mutual
inductive AlB (m : Mem) : Nat → D → D → Bool → Prop
  | sc {n : Nat} {x y : D} {k : Bool} : AlS x y k → AlB m n x y k
  | tup {n : Nat} {xs ys : List D} {ks : List Bool} : xs.length ≤ 1000000 → AlBA m n xs ys ks → AlB m (n + 1) (.tup xs) (.tup ys) (ks.all id)
  | lst {n : Nat} {a b : Addr} {xs ys : List D} {ks : List Bool} : xs.length ≤ 1000000 → rdM m a = some (.lst xs) → rdM m b = some (.lst ys) → AlBA m n xs ys ks → AlB m (n + 1) (.ref a) (.ref b) (ks.all id)
  | lstN {n : Nat} {a b : Addr} {xs ys : List D} : rdM m a = some (.lst xs) → rdM m b = some (.lst ys) → xs.length ≠ ys.length → AlB m n (.ref a) (.ref b) false
  | dct {n : Nat} {a b : Addr} {ks ls : List (Key × D)} {bs : List Bool} : m a = some (.dK ks) → m b = some (.dK ls) → ks.length = ls.length → ls.length ≤ 1000 → (ls.map (·.1)).Nodup → AlK ks ls bs → AlB m (n + 1) (.ref a) (.ref b) (bs.all id)
inductive AlBA (m : Mem) : Nat → List D → List D → List Bool → Prop
  | nil {n : Nat} : AlBA m n [] [] []
  | cons {n : Nat} {x y : D} {k : Bool} {xs ys : List D} {ks : List Bool} : AlB m n x y k → AlBA m n xs ys ks → AlBA m n (x :: xs) (y :: ys) (k :: ks)
end
theorem AlBA.len {m : Mem} {n : Nat} : ∀ {xs ys : List D} {ks : List Bool}, AlBA m n xs ys ks → xs.length = ys.length ∧ ks.length = ys.length
  | _, _, _, .nil => ⟨rfl, rfl⟩
  | _, _, _, .cons _ t => ⟨congrArg (· + 1) t.len.1, congrArg (· + 1) t.len.2⟩
theorem AlBA.at_ {m : Mem} {n : Nat} : ∀ {xs ys : List D} {ks : List Bool} {j : Nat}, AlBA m n xs ys ks → j < ys.length → ∃ x y k, atI xs (j : Int) = some x ∧ atI ys (j : Int) = some y ∧ ks[j]? = some k ∧ AlB m n x y k := by
  intro xs ys ks j h hj
  have go : ∀ (j : Nat) (xs ys : List D) (ks : List Bool), AlBA m n xs ys ks → j < ys.length → ∃ x y k, xs[j]? = some x ∧ ys[j]? = some y ∧ ks[j]? = some k ∧ AlB m n x y k := by
    intro j
    induction j with
    | zero => intro xs ys ks h h1; cases h with
      | nil => cases h1
      | cons a t => exact ⟨_, _, _, rfl, rfl, rfl, a⟩
    | succ j ih => intro xs ys ks h h1; cases h with
      | nil => cases h1
      | cons a t => obtain ⟨x, y, k, e1, e2, e3, r⟩ := ih _ _ _ t (by simpa using h1); exact ⟨x, y, k, by simpa using e1, by simpa using e2, by simpa using e3, r⟩
  obtain ⟨x, y, k, e1, e2, e3, r⟩ := go j xs ys ks h hj
  exact ⟨x, y, k, atI_nat e1, atI_nat e2, e3, r⟩
theorem AlK.at_ {ks : List (Key × D)} : ∀ {ls : List (Key × D)} {bs : List Bool}, AlK ks ls bs → bs.length = ls.length ∧ ∀ (j : Nat) (k : Key) (d : D), ls[j]? = some (k, d) → ∃ b, bs[j]? = some b ∧ ((∃ v, valD ks k = some v ∧ AlS v d b) ∨ (valD ks k = none ∧ b = false))
  | _, _, .nil => ⟨rfl, fun j k d e => by simp at e⟩
  | _, _, .hit e s t => by
    obtain ⟨h1, h2⟩ := t.at_
    refine ⟨by simp [h1], fun j k d ej => ?_⟩
    cases j with
    | zero => simp at ej; obtain ⟨rfl, rfl⟩ := ej; exact ⟨_, rfl, .inl ⟨_, e, s⟩⟩
    | succ j => exact h2 j k d (by simpa using ej)
  | _, _, .miss e t => by
    obtain ⟨h1, h2⟩ := t.at_
    refine ⟨by simp [h1], fun j k d ej => ?_⟩
    cases j with
    | zero => simp at ej; obtain ⟨rfl, rfl⟩ := ej; exact ⟨_, rfl, .inr ⟨e, rfl⟩⟩
    | succ j => exact h2 j k d (by simpa using ej)
theorem alD_drop {n k : Nat} {d : D} {r : List D} (h : d :: r = (rangeD 0 n).drop k) : d = .int (k : Nat) ∧ r = (rangeD 0 n).drop (k + 1) ∧ k < n := by
  have hl : k < (rangeD 0 n).length := by
    refine Nat.lt_of_not_le fun z => ?_
    rw [List.drop_eq_nil_of_le z] at h; cases h
  rw [List.drop_eq_getElem_cons hl] at h
  injection h with h1 h2
  rw [rangeD_len] at hl
  exact ⟨h1.trans (by simp [rangeD]), h2, hl⟩
theorem alD_nil {α : Type} {L : List α} {i : Nat} (h : [] = L.drop i) (hk : i ≤ L.length) : i = L.length := by
  have := congrArg List.length h
  rw [List.length_drop] at this
  simp at this
  omega
theorem alD_cons {α : Type} {L : List α} {i : Nat} {d : α} {r : List α} (h : d :: r = L.drop i) : L[i]? = some d ∧ r = L.drop (i + 1) ∧ i < L.length := by
  have hl : i < L.length := by
    refine Nat.lt_of_not_le fun z => ?_
    rw [List.drop_eq_nil_of_le z] at h; cases h
  rw [List.drop_eq_getElem_cons hl] at h
  injection h with h1 h2
  exact ⟨by rw [h1]; simp [hl], h2, hl⟩
theorem i_subKk {m : Mem} {Q : KM} {a : Addr} {kvs : List (Key × D)} {k : Key} {d : D} (e0 : rdM m a = some (.dK kvs)) (e : valD kvs k = some d) (h : Q d m) : wSub (.ref a) (kD k) m Q := ⟨_, e0, d, ⟨k, rfl, e.symm⟩, h⟩
theorem valD_nd : ∀ {ls : List (Key × D)} {j : Nat} {k : Key} {d : D}, (ls.map (·.1)).Nodup → ls[j]? = some (k, d) → valD ls k = some d
  | [], _, _, _, _, e => by simp at e
  | (k0, d0) :: ls, 0, k, d, _, e => by simp at e; obtain ⟨rfl, rfl⟩ := e; simp [valD]
  | (k0, d0) :: ls, j + 1, k, d, nd, e => by
    rw [List.map_cons, List.nodup_cons] at nd
    have e : ls[j]? = some (k, d) := by simpa using e
    have ne : ¬ k0 = k := by rintro rfl; exact nd.1 (List.mem_map.mpr ⟨_, List.mem_of_getElem? e, rfl⟩)
    have := valD_nd nd.2 e
    simpa [valD, ne] using this
def spAlB (n : Nat) : SpM := fun ds m Q _ => ∃ x y b, ds = [x, y] ∧ n ≤ 60 ∧ (∃ k, k < n ∧ AlB m k x y b) ∧ Q (.bl b) m
abbrev s__law_alike : Stmt := topS 22
theorem sc__law_alike : FnScope ["_law_found", "_law_due", "_law_name", "_law_k"] ["_law_found", "_law_due"] (defScope s__law_alike) := ⟨rfl, rfl, rfl, by decide +kernel, rfl, by decide +kernel, by decide +kernel⟩
theorem ok_law_alikeB {k n : Nat} (Z : Bl mg) {f__law_alike : Addr} {fd__law_alike : FuncData} (D__law_alike : Df K mg "_law_alike" f__law_alike fd__law_alike ["_law_found", "_law_due"]) (G__law_alike : FnM P w K mg base CX0 (k) f__law_alike fd__law_alike ["_law_found", "_law_due"] (spAlB n)) (F : Fun K "_law_alike" "_law_alike" s__law_alike f__law_alike fd__law_alike) : FnM P w K mg base CX0 (k + 1) f__law_alike fd__law_alike ["_law_found", "_law_due"] (spAlB (n + 1)) := by
  refine fn_m F sc__law_alike (fun ds m Q E h => ?_) (fun cdv A outer s H ds m Q E E' hr h => ?_)
  · obtain ⟨x, y, b, rfl, _⟩ := h; rfl
  have nd := sc__law_alike.nd
  obtain ⟨x, y, bb, rfl, hn, ⟨d, hd, h⟩, q⟩ := h
  refine ⟨_, (mss_cons (ms_if (mt_cmp mo_isN (mv 1) mx_non (nomark _)) (mss_one (ms_ret (mx_cmp mo_isN (mv 0) mx_non (nomark _)))) mss_nil)
    (mss_cons (ms_if (mt_val (mx_callB mc_isinstance2 Z.b_isinstance (ma_cons (mv 1) (ma_cons (mx_ty (T := "bool") Z.b_bool) ma_nil)))) (mss_one (ms_ret (mx_and (mx_callB mc_isinstance2 Z.b_isinstance (ma_cons (mv 0) (ma_cons (mx_ty (T := "bool") Z.b_bool) ma_nil))) (mx_one (mx_cmp (mo_eqq hr) (mv 0) (mv 1) (nomark _)))))) mss_nil)
    (mss_cons (ms_if (mt_val (mx_callB mc_isinstance2 Z.b_isinstance (ma_cons (mv 1) (ma_cons (mx_ty (T := "int") Z.b_int) ma_nil)))) (mss_one (ms_ret (mx_and (mx_callB mc_isinstance2 Z.b_isinstance (ma_cons (mv 0) (ma_cons (mx_ty (T := "int") Z.b_int) ma_nil))) (mx_and (mx_not (mx_callB mc_isinstance2 Z.b_isinstance (ma_cons (mv 0) (ma_cons (mx_ty (T := "bool") Z.b_bool) ma_nil)))) (mx_one (mx_cmp (mo_eqq hr) (mv 0) (mv 1) (nomark _))))))) mss_nil)
    (mss_cons (ms_if (mt_val (mx_callB mc_isinstance2 Z.b_isinstance (ma_cons (mv 1) (ma_cons (mx_ty (T := "str") Z.b_str) ma_nil)))) (mss_one (ms_ret (mx_and (mx_callB mc_isinstance2 Z.b_isinstance (ma_cons (mv 0) (ma_cons (mx_ty (T := "str") Z.b_str) ma_nil))) (mx_one (mx_cmp (mo_eqq hr) (mv 0) (mv 1) (nomark _)))))) mss_nil)
    (mss_cons (ms_if (mt_val (mx_callB mc_isinstance2 Z.b_isinstance (ma_cons (mv 1) (ma_cons (mx_ty (T := "dict") Z.b_dict) ma_nil)))) (mss_cons (ms_if (mw_pt (mw_or (mt_not (mt_val (mx_callB mc_isinstance2 Z.b_isinstance (ma_cons (mv 0) (ma_cons (mx_ty (T := "dict") Z.b_dict) ma_nil))))) (mw_or1 (mt_cmp (mo_neq hr) (mx_callB mc_len1 Z.b_len (ma_cons (mv 0) ma_nil)) (mx_callB mc_len1 Z.b_len (ma_cons (mv 1) ma_nil)) (nomark _))))) (mss_one (ms_ret mx_bl)) mss_nil)
    (mss_one (ms_ret (mx_callB mc_all1 Z.b_all (ma_cons (mx_lcK (own := [("_law_name", 2)]) rfl nd (mv 1) (blkOk_by (by show blkC ["_law_found", "_law_due", "_law_name", "_law_k"] (defScope s__law_alike) _ _ = true; decide +kernel)) (fun _ _ _ _ _ => (pg_name (i := 2) nd rfl (Or.inl rfl))) (gok_name (i := 2) (by decide)) (fun _ _ _ _ _ => mts_nil) (fun _ _ _ _ _ => (mx_and (mx_cmp (mo_in hr) (mv 2) (mv 0) rfl) (mx_one (mx_call (Em := noX) G__law_alike hr D__law_alike.m D__law_alike.k D__law_alike.b pass0M (ma_cons (mx_ix (mi_sub hr) (mv 0) (mv 2)) (ma_cons (mx_ix (mi_sub hr) (mv 1) (mv 2)) ma_nil))))))) ma_nil))))) mss_nil)
    (mss_cons (ms_if (mw_pt (mw_or (mt_cmp (mo_neq hr) (mx_callB mc_isinstance2 Z.b_isinstance (ma_cons (mv 1) (ma_cons (mx_ty (T := "tuple") Z.b_tuple) ma_nil))) (mx_callB mc_isinstance2 Z.b_isinstance (ma_cons (mv 0) (ma_cons (mx_ty (T := "tuple") Z.b_tuple) ma_nil))) (nomark _)) (mw_or1 (mt_cmp (mo_neq hr) (mx_callB mc_isinstance2 Z.b_isinstance (ma_cons (mv 1) (ma_cons (mx_ty (T := "list") Z.b_list) ma_nil))) (mx_callB mc_isinstance2 Z.b_isinstance (ma_cons (mv 0) (ma_cons (mx_ty (T := "list") Z.b_list) ma_nil))) (nomark _))))) (mss_one (ms_ret mx_bl)) mss_nil)
    (mss_cons (ms_if (mt_cmp (mo_neq hr) (mx_callB mc_len1 Z.b_len (ma_cons (mv 0) ma_nil)) (mx_callB mc_len1 Z.b_len (ma_cons (mv 1) ma_nil)) (nomark _)) (mss_one (ms_ret mx_bl)) mss_nil)
    (mss_one (ms_ret (mx_callB mc_all1 Z.b_all (ma_cons (mx_lc (own := [("_law_k", 3)]) rfl nd (mi_range1 Z.b_range (ma_cons (mx_callB mc_len1 Z.b_len (ma_cons (mv 1) ma_nil)) ma_nil)) (blkOk_by (by show blkC ["_law_found", "_law_due", "_law_name", "_law_k"] (defScope s__law_alike) _ _ = true; decide +kernel)) (fun _ _ _ _ _ => (pg_name (i := 3) nd rfl (Or.inl rfl))) (gok_name (i := 3) (by decide)) (fun _ _ _ _ _ => mts_nil) (fun _ _ _ _ _ => (mx_call (Em := noX) G__law_alike hr D__law_alike.m D__law_alike.k D__law_alike.b pass0M (ma_cons (mx_ix (mi_sub hr) (mv 0) (mv 3)) (ma_cons (mx_ix (mi_sub hr) (mv 1) (mv 3)) ma_nil))))) ma_nil))))))))))), ?_⟩
  cases h with
  | sc h =>
    cases h with
    | non => wtm_at "go"
    | bl b c => wtm_at "go"
    | int i j => wtm_at "go"
    | str x y => wtm_at "go"
  | @tup n0 xs ys ks h5 ha =>
    have hl := ha.len
    wtm_at "go"
    refine i_iteF (by rw [hl.1]; simp) ?_
    wtm_at "go"
    refine ⟨by omega, by omega, ?_⟩
    rw [Int.toNat_natCast]
    refine lcC_ind (fun rest acc M => ∃ j : Nat, j ≤ ys.length ∧ rest = (rangeD 0 ys.length).drop j ∧ acc = (ks.take j).map .bl ∧ M = m) ⟨0, Nat.zero_le _, rfl, rfl, rfl⟩ ?_ ?_
    · rintro acc M ⟨j, hj, er, rfl, rfl⟩
      obtain rfl : j = ys.length := by have := alD_nil er (by rw [rangeD_len]; exact hj); rw [rangeD_len] at this; exact this
      refine ⟨trivial, ?_⟩
      rw [List.take_of_length_le (by omega)]
      intro p hp
      wtm_at "go"
      exact ⟨ks, rd_L mput_same, RtM.sub (Sub.refl.new hp) q⟩
    · rintro d2 rest acc M K2 hK ⟨j, hj, er, rfl, rfl⟩
      obtain ⟨rfl, er', hj'⟩ := alD_drop er
      obtain ⟨x, y, b, e1, e2, e3, a1⟩ := ha.at_ hj'
      refine ⟨trivial, ?_⟩
      wtm_at "go"
      refine ⟨rfl, ?_⟩
      refine i_yes (i_iteT rfl ?_)
      wtm_at "go"
      refine i_subT e1 ?_
      wtm_at "go"
      refine i_subT e2 ?_
      wtm_at "go"
      refine ⟨_, _, b, rfl, by omega, ⟨_, by omega, a1⟩, ?_⟩
      refine ⟨Nat.lt_of_le_of_lt (m := 1000000) (by rw [List.length_map, List.length_take]; omega) (by decide), hK _ _ ⟨j + 1, by omega, er', ?_, rfl⟩⟩
      rw [List.take_succ, e3]; simp
  | @lst n0 a b xs ys ks h5 hx hy ha =>
    have hl := ha.len
    wtm_at "go"
    refine i_iteF (by rw [hl.1]; simp) ?_
    wtm_at "go"
    refine ⟨by omega, by omega, ?_⟩
    rw [Int.toNat_natCast]
    refine lcC_ind (fun rest acc M => ∃ j : Nat, j ≤ ys.length ∧ rest = (rangeD 0 ys.length).drop j ∧ acc = (ks.take j).map .bl ∧ M = m) ⟨0, Nat.zero_le _, rfl, rfl, rfl⟩ ?_ ?_
    · rintro acc M ⟨j, hj, er, rfl, rfl⟩
      obtain rfl : j = ys.length := by have := alD_nil er (by rw [rangeD_len]; exact hj); rw [rangeD_len] at this; exact this
      refine ⟨trivial, ?_⟩
      rw [List.take_of_length_le (by omega)]
      intro p hp
      wtm_at "go"
      exact ⟨ks, rd_L mput_same, RtM.sub (Sub.refl.new hp) q⟩
    · rintro d2 rest acc M K2 hK ⟨j, hj, er, rfl, rfl⟩
      obtain ⟨rfl, er', hj'⟩ := alD_drop er
      obtain ⟨x, y, b, e1, e2, e3, a1⟩ := ha.at_ hj'
      refine ⟨trivial, ?_⟩
      wtm_at "go"
      refine ⟨rfl, ?_⟩
      refine i_yes (i_iteT rfl ?_)
      wtm_at "go"
      refine i_subL hx e1 ?_
      wtm_at "go"
      refine i_subL hy e2 ?_
      wtm_at "go"
      refine ⟨_, _, b, rfl, by omega, ⟨_, by omega, a1⟩, ?_⟩
      refine ⟨Nat.lt_of_le_of_lt (m := 1000000) (by rw [List.length_map, List.length_take]; omega) (by decide), hK _ _ ⟨j + 1, by omega, er', ?_, rfl⟩⟩
      rw [List.take_succ, e3]; simp
  | @lstN n0 a b xs ys hx hy hne =>
    wtm_at "go"
    refine i_iteT (by simp; omega) ?_
    wtm_at "go"
  | @dct n0 a b ks ls bs hx hy hl h1 hnd hk =>
    obtain ⟨hbl, hat⟩ := hk.at_
    wtm_at "go"
    refine i_lenD hx ?_
    wtm_at "go"
    refine i_lenD hy ?_
    wtm_at "go"
    refine i_iteF (by rw [hl]; simp) ?_
    wtm_at "go"
    refine ⟨b, _, _, rfl, hy, rfl, ?_⟩
    have hx2 : rdM (mput m b (.frz (.dK ls))) a = some (.dK ks) := by
      by_cases z : a = b
      · subst z; rw [hx] at hy; cases hy; exact rd_frz mput_same
      · exact rd_K ((mput_ne z).trans hx)
    have hy2 : rdM (mput m b (.frz (.dK ls))) b = some (.dK ls) := rd_frz mput_same
    refine lcC_ind (fun rest acc M => ∃ j : Nat, j ≤ ls.length ∧ rest = (ls.map fun p => kD p.1).drop j ∧ acc = (bs.take j).map .bl ∧ M = mput m b (.frz (.dK ls))) ⟨0, Nat.zero_le _, rfl, rfl, rfl⟩ ?_ ?_
    · rintro acc M ⟨j, hj, er, rfl, rfl⟩
      obtain rfl : j = ls.length := by have := alD_nil er (by rw [List.length_map]; exact hj); rw [List.length_map] at this; exact this
      refine ⟨trivial, fun p hpb hp => ?_⟩
      rw [List.take_of_length_le (by omega), mput_mput, mput_self hy]
      rw [mput_ne hpb] at hp
      wtm_at "go"
      exact ⟨bs, rd_L mput_same, RtM.sub (Sub.refl.new hp) q⟩
    · rintro d2 rest acc M K2 hK ⟨j, hj, er, rfl, rfl⟩
      obtain ⟨e, er', hj'⟩ := alD_cons er
      rw [List.length_map] at hj'
      rw [List.getElem?_map] at e
      obtain ⟨⟨k, dd⟩, ep, rfl⟩ := Option.map_eq_some_iff.mp e
      obtain ⟨bv, eb, hb⟩ := hat j k dd ep
      have hv := valD_nd hnd ep
      refine ⟨trivial, rfl, ?_⟩
      refine i_yes (i_iteT rfl ?_)
      wtm_at "go"
      refine i_in (in_dK hx2) ?_
      have sz : ((bs.take j).map D.bl).length < sizeLine := Nat.lt_of_lt_of_le (m := 1000) (by rw [List.length_map, List.length_take]; omega) (by decide)
      have fin : K2 ((bs.take j).map .bl ++ [.bl bv]) (mput m b (.frz (.dK ls))) := hK _ _ ⟨j + 1, by omega, er', by rw [List.take_succ, eb]; simp, rfl⟩
      rcases hb with ⟨v, ev, al⟩ | ⟨ev, rfl⟩
      · rw [ev]
        wtm_at "go"
        refine i_subKk hx2 ev ?_
        wtm_at "go"
        refine i_subKk hy2 hv ?_
        wtm_at "go"
        exact ⟨_, _, bv, rfl, by omega, ⟨0, by omega, .sc al⟩, sz, fin⟩
      · rw [ev]
        wtm_at "go"
        exact ⟨sz, fin⟩
theorem fin_law_alikeB {c : Nat} (Z : Bl mg) {f__law_alike : Addr} {fd__law_alike : FuncData} (D__law_alike : Df K mg "_law_alike" f__law_alike fd__law_alike ["_law_found", "_law_due"]) (F : Fun K "_law_alike" "_law_alike" s__law_alike f__law_alike fd__law_alike) : ∀ n, FnM P w K mg base CX0 (c + n) f__law_alike fd__law_alike ["_law_found", "_law_due"] (spAlB n)
  | 0 => fn_none fun ds m Q E ⟨x, y, _, _, _, ⟨k, h, _⟩, _⟩ => by omega
  | n + 1 => ok_law_alikeB Z D__law_alike (fin_law_alikeB Z D__law_alike F n) F

/-! ### loose data: tuples, texts, numbers, lists, whatever they hold -/
inductive Kd (m : Mem) : D → Prop
  | non : Kd m .non
  | bl (b : Bool) : Kd m (.bl b)
  | int (i : Int) : Kd m (.int i)
  | str (x : Str) : x.length ≤ 1000 → PyData.strOk x = true → Kd m (.str x)
  | tup {ds : List D} : (∀ d ∈ ds, Kd m d) → Kd m (.tup ds)
  | lst {a : Addr} {ds : List D} : rdM m a = some (.lst ds) → (∀ d ∈ ds, Kd m d) → Kd m (.ref a)
theorem rdM_le {m m' : Mem} {a : Addr} {o : O} (s : Sub m m') (h : rdM m a = some o) : rdM m' a = some o := by
  unfold rdM at h ⊢
  cases e : m a with
  | none => rw [e] at h; cases h
  | some u => rw [e] at h; rw [s _ _ e]; exact h
theorem Kd.sub {m m' : Mem} (s : Sub m m') {d : D} (h : Kd m d) : Kd m' d := by
  induction h with
  | non => exact .non
  | bl b => exact .bl b
  | int i => exact .int i
  | str x h1 h2 => exact .str x h1 h2
  | tup _ ih => exact .tup ih
  | lst e _ ih => exact .lst (rdM_le s e) ih
theorem Kd.tups {m : Mem} {ds : List D} (h : Kd m (.tup ds)) : ∀ d ∈ ds, Kd m d := by cases h; assumption
theorem Kd.strs {m : Mem} {x : Str} (h : Kd m (.str x)) : x.length ≤ 1000 ∧ PyData.strOk x = true := by cases h; exact ⟨by assumption, by assumption⟩
theorem vwA_of {m : Mem} : ∀ {ds : List D}, (∀ d ∈ ds, ∃ t, Vw m d t ∧ t.canLay0 = true) → ∃ ts, VwA m ds ts ∧ PyData.canLayAll0 ts = true
  | [], _ => ⟨[], .nil, rfl⟩
  | d :: ds, h => by
    obtain ⟨t, h1, h2⟩ := h d (.head _)
    obtain ⟨ts, h3, h4⟩ := vwA_of fun x hx => h x (.tail _ hx)
    exact ⟨t :: ts, .cons h1 h3, by simp [PyData.canLayAll0, h2, h4]⟩
theorem Kd.vw {m : Mem} {d : D} (h : Kd m d) : ∃ t, Vw m d t ∧ t.canLay0 = true := by
  induction h with
  | non => exact ⟨_, .non, rfl⟩
  | bl b => exact ⟨_, .bl b, rfl⟩
  | int i => exact ⟨_, .int i, rfl⟩
  | str x h1 h2 => exact ⟨_, .str x, h2⟩
  | tup _ ih => obtain ⟨ts, h1, h2⟩ := vwA_of ih; exact ⟨_, .tup h1, h2⟩
  | lst e _ ih => obtain ⟨ts, h1, h2⟩ := vwA_of ih; exact ⟨_, .lst e h1, h2⟩
def isTy (T : String) : D → Bool
  | .non => isiB "NoneType" T
  | .bl _ => isiB "bool" T
  | .int _ => isiB "int" T
  | .str _ => isiB "str" T
  | .tup _ => isiB "tuple" T
  | .ref _ => isiB "list" T
  | .ty _ => false
theorem i_isiK {m : Mem} {Q : KM} {x : D} {T : String} (h : Kd m x) (hT : T ∈ tys) (q : Q (.bl (isTy T x)) m) : wIsi [x, .ty T] m Q := by
  cases h with
  | non => exact ⟨_, rfl, hT, q⟩
  | bl b => exact ⟨_, rfl, hT, q⟩
  | int i => exact ⟨_, rfl, hT, q⟩
  | str x h1 h2 => exact ⟨_, rfl, hT, q⟩
  | tup _ => exact ⟨_, rfl, hT, q⟩
  | @lst a ds e _ =>
    refine ⟨"list", ?_, hT, q⟩
    unfold rdM at e
    show (match m a with | some (.lst _) => some "list" | some (.dK _) => some "dict" | some (.dT _) => some "dict" | some (.frz (.lst _)) => some "list" | _ => none) = _
    cases c : m a with
    | none => rw [c] at e; cases e
    | some o =>
      rw [c] at e
      cases o with
      | frz o => cases e; rfl
      | lst l => rfl
      | dK l => cases e
      | dT l => cases e
      | dN _ _ l => cases e
      | ins C l => cases e
/-- beside a text -/
def isS (x : Str) : D → Bool
  | .str y => decide (y = x)
  | _ => false
theorem i_eqKS {m : Mem} {Q : KM} {d : D} {x : Str} (h : Kd m d) (hx : PyData.strOk x = true) (q : Q (.bl (isS x d)) m) : wEqM d (.str x) m Q := by
  obtain ⟨t, h1, h2⟩ := h.vw
  refine i_eqM (k := isS x d) (.inr ⟨t, .str x, h1, .str x, h2, hx, ?_, ?_⟩) q
  · exact Nat.le_trans (Nat.min_le_right _ _) (by show PyData.depth (.str x) ≤ 64; simp [PyData.depth])
  · cases h1 <;> first | rfl | skip
/-- the tuple of a word alone -/
theorem eqM_none {m : Mem} {x y : Str} {r : List D} (h : Kd m (.tup (.str x :: r))) (hy : PyData.strOk y = true) : EqM m (.tup (.str x :: r)) (.tup [.str y]) (decide (x = y) && r.isEmpty) := by
  obtain ⟨t, h1, h2⟩ := h.vw
  refine .inr ⟨t, .tuple [.str y], h1, .tup (.cons (.str y) .nil), h2, ?_, ?_, ?_⟩
  · simp [PyData.canLay0, PyData.canLayAll0, hy]
  · exact Nat.le_trans (Nat.min_le_right _ _) (by simp [PyData.depth, PyData.depthAll])
  · cases h1 with
    | tup h1 =>
      cases h1 with
      | cons h1 h3 =>
        cases h1
        cases h3 with
        | nil => by_cases e : x = y <;> simp [PyData.eqv, PyData.eqvAll, e]
        | cons _ _ => by_cases e : x = y <;> simp [PyData.eqv, PyData.eqvAll, e]
/-! ### what is right -/
def smallCps : List Nat := (Str.ofString "abcdefghijklmnopqrstuvwxyz").cps.toList
def okWord : D → Bool
  | .str x => decide (1 ≤ x.length ∧ x.length ≤ 8 ∧ ∀ c ∈ x.cps.toList, c ∈ smallCps)
  | _ => false
def okNum (l u : Int) : D → Bool
  | .int i => decide (l ≤ i) && decide (i ≤ u)
  | _ => false
def isJoin (x : Str) : Bool := decide (x = "plus") || decide (x = "minus") || decide (x = "times") || decide (x = "most") || decide (x = "least")
/-- at the depth 13 - n -/
def okTold : Nat → D → Bool
  | n + 1, .tup (.str x :: r) =>
    if x = "num" then (match r with | [a] => okNum (1 - 1000000000000) (1000000000000 - 1) a | _ => false)
    else if x = "read" then (match r with | [a] => okWord a | _ => false)
    else match r with | [a, b] => isJoin x && (okTold n a && okTold n b) | _ => false
  | _, _ => false
def okAsked : Nat → D → Bool
  | n + 1, .tup (.str x :: r) =>
    if x = "below" then (match r with | [a, b] => okTold n a && okTold n b | _ => false)
    else if x = "not" then (match r with | [a] => okAsked n a | _ => false)
    else match r with | [a, b] => (decide (x = "all") || decide (x = "any")) && (okAsked n a && okAsked n b) | _ => false
  | _, _ => false
def okSides : D → D → Bool
  | .str x, .str y => okWord (.str x) && okWord (.str y) && !decide (x = y)
  | _, _ => false
def okCon : Nat → D → Bool
  | n + 1, .tup (.str x :: r) =>
    if x = "give" then (match r with | [a, b, g, t] => okWord g && okSides a b && okTold n t | _ => false)
    else if x = "turned" then (match r with | [a, b, c] => okSides a b && okCon n c | _ => false)
    else if x = "later" then (match r with | [h, c] => okNum 0 99 h && okCon n c | _ => false)
    else if x = "often" then (match r with | [k, h, c] => okNum 1 9 k && okNum 1 99 h && okCon n c | _ => false)
    else if x = "if" then (match r with | [q, a, b] => okAsked n q && okCon n a && okCon n b | _ => false)
    else if x = "when" then (match r with | [q, a] => okAsked n q && okCon n a | _ => false)
    else if x = "until" then (match r with | [q, a] => okAsked n q && okCon n a | _ => false)
    else if x = "both" then (match r with | [a, b] => okCon n a && okCon n b | _ => false)
    else decide (x = "none") && r.isEmpty
  | _, _ => false
/-! ### that it is loose data, by forms -/
def KdA (m : Mem) (ds : List D) : Prop := ∀ d ∈ ds, Kd m d
theorem kdA_nil {m : Mem} : KdA m [] := fun _ h => (nomatch h)
theorem kdA_cons {m : Mem} {d : D} {ds : List D} (h : Kd m d) (r : KdA m ds) : KdA m (d :: ds) := fun x hx => by
  rcases List.mem_cons.mp hx with rfl | hx
  · exact h
  · exact r x hx
theorem kdA_app {m : Mem} {ds es : List D} (h : KdA m ds) (k : KdA m es) : KdA m (ds ++ es) := fun x hx => by
  rcases List.mem_append.mp hx with hx | hx
  · exact h x hx
  · exact k x hx
theorem kd_tup0 {m : Mem} : Kd m (.tup []) := .tup kdA_nil
theorem kd_tup {m : Mem} {x : D} {ds : List D} (h0 : true = true) (h : KdA m (x :: ds)) : Kd m (.tup (x :: ds)) := .tup h
theorem KdA.mp {m : Mem} {L : List D} {d : D} (h : KdA m L) (hm : d ∈ L) : Kd m d := h d hm
theorem kd_pick {m : Mem} {L : List D} {r : Int} (h0 : 0 ≤ r) (h1 : r < L.length) (hk : KdA m L) : ∃ d, atI L r = some d ∧ Kd m d := by
  have hl : r.toNat < L.length := by omega
  obtain ⟨n, rfl⟩ : ∃ n : Nat, r = (n : Int) := ⟨r.toNat, by omega⟩
  exact ⟨L[n]'(by omega), atI_nat (List.getElem?_eq_getElem (by omega)), hk _ (List.getElem_mem _)⟩

/-! ### contracts that are refused -/
def gMust (C : Addr) : SpM := fun ds m Q E => match ds with
  | [.bl b] => if b = true then Q .non m else E C m
  | _ => False
theorem gMust_in {C : Addr} {b : Bool} {m : Mem} {Q : KM} {E : XM} (h : if b = true then Q .non m else E C m) : gMust C [.bl b] m Q E := h
local macro_rules | `(tactic| wtm_at "dec") => `(tactic| (simp [isTy, isiB]; done))
local macro_rules | `(tactic| wtm_at "dec") => `(tactic| first | with_reducible rfl | (simp only [isN, ofString_inj, decide_eq_true_eq, decide_eq_false_iff_not, String.reduceEq, reduceCtorEq, not_false_eq_true, decide_true, decide_false, Bool.not_true, Bool.not_false, Bool.not_eq_true', Bool.not_eq_false', Int.reduceLT, Int.reduceLE, Int.reduceEq]; done) | (decide) | (simp; done) | fail)
local macro_rules | `(tactic| wtm_at "one") => `(tactic| first | (with_reducible refine gMust_in ?_) | ((with_reducible apply i_isiK); (focus assumption); (focus decide)))
local macro_rules | `(tactic| wtm_at "kdt") => `(tactic| (repeat' first | with_reducible assumption | with_reducible exact kdA_nil | with_reducible refine kdA_cons ?_ ?_ | with_reducible refine kdA_app ?_ ?_ | with_reducible exact Kd.non | with_reducible exact Kd.int _ | with_reducible exact Kd.bl _ | with_reducible exact kd_tup0 | ((with_reducible refine kd_tup ?_ ?_); (focus rfl)) | (refine Kd.str _ ?_ ?_ <;> decide +kernel)))
def gWord : SpM := fun ds m Q _ => ∃ d : D, ds = [d] ∧ Kd m d ∧ Q (.bl (okWord d)) m
abbrev s_is_word : Stmt := topS 7
theorem sc_is_word : FnScope ["word", "sign"] ["word"] (defScope s_is_word) := ⟨rfl, rfl, rfl, by decide +kernel, rfl, by decide +kernel, by decide +kernel⟩
theorem gok_is_word {k : Nat} (V : Gv K mg) (Z : Bl mg) {f_is_word : Addr} {fd_is_word : FuncData} (F : Fun K "is_word" "is_word" s_is_word f_is_word fd_is_word) : FnM P w K mg base CX0 (k + 1) f_is_word fd_is_word ["word"] (gWord) := by
  refine fn_m F sc_is_word (fun ds m Q E h => ?_) (fun cdv A outer s H ds m Q E E' hr h => ?_)
  · obtain ⟨x, rfl, _⟩ := h; rfl
  have nd := sc_is_word.nd
  obtain ⟨d, rfl, hk, q⟩ := h
  refine ⟨_, (mss_one (ms_ret (mx_and (mx_callB mc_isinstance2 Z.b_isinstance (ma_cons (mv 0) (ma_cons (mx_ty (T := "str") Z.b_str) ma_nil))) (mx_and (mx_chain mo_le mo_le mx_int (mx_callB mc_len1 Z.b_len (ma_cons (mv 0) ma_nil)) mx_int) (mx_one (mx_callB mc_all1 Z.b_all (ma_cons (mx_lc (own := [("sign", 1)]) rfl nd (mi_str (mv 0)) (blkOk_by (by show blkC ["word", "sign"] (defScope s_is_word) _ _ = true; decide +kernel)) (fun _ _ _ _ _ => (pg_name (i := 1) nd rfl (Or.inl rfl))) (gok_name (i := 1) (by decide)) (fun _ _ _ _ _ => mts_nil) (fun _ _ _ _ _ => (mx_cmp (mo_in hr) (mv 1) (mx_gt V.SMALL) rfl))) ma_nil))))))), ?_⟩
  cases d with
  | str x =>
    have sz : x.length ≤ sizeLine := sl hk.strs.1
    wtm_at "go"
    refine i_lenS sz ?_
    wtm_at "go"
    by_cases h1 : 1 ≤ x.length
    · rw [decide_eq_true (show (1 : Int) ≤ (x.length : Int) by omega)]
      wtm_at "go"
      by_cases h2 : x.length ≤ 8
      · rw [decide_eq_true (show (x.length : Int) ≤ 8 by omega)]
        wtm_at "go"
        have len8 : (signsD x).length ≤ 8 := by unfold signsD; rw [List.length_map, Array.length_toList]; exact h2
        refine ⟨.str x, rfl, x, rfl, ?_⟩
        refine lcC_pure (fun d => .bl (match d with | .str y => decide (∃ c ∈ y.cps.toList, c ∈ smallCps) | _ => false)) (sl (by omega)) trivial ?_ ?_
        · intro d hd R hR
          obtain ⟨c, hc, rfl⟩ := List.mem_map.mp hd
          refine ⟨rfl, ?_⟩
          wtm_at "go"
          refine i_in in_sign ?_
          have e : (decide (c ∈ (Str.ofString "abcdefghijklmnopqrstuvwxyz").cps.toList)) = decide (∃ c' ∈ (⟨#[c]⟩ : Str).cps.toList, c' ∈ smallCps) := by
            congr 1; simp [smallCps]
          rw [e]
          exact hR
        intro p hp
        wtm_at "go"
        refine ⟨x.cps.toList.map fun c => decide (c ∈ smallCps), rd_L (by
          rw [mput_same]; unfold signsD; rw [List.map_map, List.map_map]
          congr 2; exact List.map_congr_left fun c _ => by simp), ?_⟩
        refine RtM.sub (Sub.refl.new hp) ?_
        rw [show (x.cps.toList.map fun c => decide (c ∈ smallCps)).all id = okWord (.str x) by
          unfold okWord
          rw [Bool.eq_iff_iff, List.all_eq_true, decide_eq_true_iff]
          constructor
          · intro h; exact ⟨h1, h2, fun c hc => of_decide_eq_true (h _ (List.mem_map.mpr ⟨c, hc, rfl⟩))⟩
          · rintro ⟨_, _, h⟩ b hb
            obtain ⟨c, hc, rfl⟩ := List.mem_map.mp hb
            exact decide_eq_true (h c hc)]
        exact q
      · rw [decide_eq_false (show ¬ (x.length : Int) ≤ 8 by omega)]
        rw [show okWord (.str x) = false by unfold okWord; exact decide_eq_false fun z => h2 z.2.1] at q
        wtm_at "go"
    · rw [decide_eq_false (show ¬ (1 : Int) ≤ (x.length : Int) by omega)]
      rw [show okWord (.str x) = false by unfold okWord; exact decide_eq_false fun z => h1 z.1] at q
      wtm_at "go"
  | _ => wtm_at "go"

/-! ### markets that are made, or refused -/
local macro_rules | `(tactic| wtm_at "dec") => `(tactic| (simp; omega))
local macro_rules | `(tactic| wtm_at "dec") => `(tactic| (simp [isTy, isiB]; done))
local macro_rules | `(tactic| wtm_at "dec") => `(tactic| first | with_reducible rfl | (simp only [isN, ofString_inj, decide_eq_true_eq, decide_eq_false_iff_not, String.reduceEq, reduceCtorEq, not_false_eq_true, decide_true, decide_false, Bool.not_true, Bool.not_false, Bool.not_eq_true', Bool.not_eq_false', Int.reduceLT, Int.reduceLE, Int.reduceEq]; done) | (decide) | (simp; done) | fail)
local macro_rules | `(tactic| wtm_at "one") => `(tactic| first | (with_reducible refine gMust_in ?_) | ((with_reducible apply i_isiK); (focus assumption); (focus decide)))
local macro_rules | `(tactic| wtm_at "kdt") => `(tactic| (repeat' first | with_reducible assumption | with_reducible exact kdA_nil | with_reducible refine kdA_cons ?_ ?_ | with_reducible refine kdA_app ?_ ?_ | with_reducible exact Kd.non | with_reducible exact Kd.int _ | with_reducible exact Kd.bl _ | with_reducible exact kd_tup0 | ((with_reducible refine kd_tup ?_ ?_); (focus rfl)) | (refine Kd.str _ ?_ ?_ <;> decide +kernel)))
local macro_rules | `(tactic| wtm_at "mlk") => `(tactic| (simp [List.lookup, ofString_inj, putFD]; done))
local macro_rules | `(tactic| wtm_at "mem") => `(tactic| with_reducible first | assumption | exact mput_same | (apply mput_new; assumption; wtm_at "mem") | (apply mput_off; assumption; wtm_at "mem") | (apply mput_off'; assumption; wtm_at "mem") | (apply rd_K; wtm_at "mem") | (apply rd_L; wtm_at "mem") | (apply rd_T; wtm_at "mem") | (apply rd_I; wtm_at "mem") | (apply rd_frz; wtm_at "mem") | fail)
structure Xcs (K : PySem.W.Frag) (mg : Str → Option Value) (c_BookError c_BadMarket c_TooMany : Addr) : Prop where
  X_BookError : XcF K mg "BookError" c_BookError
  X_BadMarket : XcF K mg "BadMarket" c_BadMarket
  X_TooMany : XcF K mg "TooMany" c_TooMany
  e_BadMarket : PySem.W.exmOne K (.ref c_BadMarket) (.ref c_BookError) = some true
  s_BadMarket : PySem.W.exmOne K (.ref c_BadMarket) (.ref c_BadMarket) = some true
  v_BadMarket : PySem.W.kitOne K (.ref c_BadMarket) (.type "ValueError") = some true
  k_BadMarket_BookError : PySem.W.kitOne K (.ref c_BadMarket) (.ref c_BookError) = some true
  k_BadMarket_BadMarket : PySem.W.kitOne K (.ref c_BadMarket) (.ref c_BadMarket) = some true
  k_BadMarket_TooMany : PySem.W.kitOne K (.ref c_BadMarket) (.ref c_TooMany) = some false
  e_TooMany : PySem.W.exmOne K (.ref c_TooMany) (.ref c_BookError) = some true
  s_TooMany : PySem.W.exmOne K (.ref c_TooMany) (.ref c_TooMany) = some true
  v_TooMany : PySem.W.kitOne K (.ref c_TooMany) (.type "ValueError") = some true
  k_TooMany_BookError : PySem.W.kitOne K (.ref c_TooMany) (.ref c_BookError) = some true
  k_TooMany_BadMarket : PySem.W.kitOne K (.ref c_TooMany) (.ref c_BadMarket) = some false
  k_TooMany_TooMany : PySem.W.kitOne K (.ref c_TooMany) (.ref c_TooMany) = some true
abbrev s_must : Stmt := topS 14
theorem sc_must : FnScope ["good"] ["good"] (defScope s_must) := ⟨rfl, rfl, rfl, by decide +kernel, rfl, by decide +kernel, by decide +kernel⟩
theorem gok_mmust {k : Nat} {c_BookError c_BadMarket c_TooMany : Addr} (XE : Xcs K mg c_BookError c_BadMarket c_TooMany) {f_must : Addr} {fd_must : FuncData} (F : Fun K "must" "must" s_must f_must fd_must) : FnM P w K mg base (L2.CX P w) (k + 1) f_must fd_must ["good"] (gMust c_BadMarket) := by
  refine fn_mX F sc_must (fun ds m Q E h => ?_) (fun cdv A outer s H ds m Q E E' hr h hw => ?_)
  · unfold gMust at h; split at h
    · rfl
    · exact h.elim
  have nd := sc_must.nd
  unfold gMust at h; split at h
  · rename_i b
    refine ⟨_, (mss_one (ms_if (mt_not (mt_val (mv 0))) (mss_one (ms_raise rfl (takes_of rfl rfl rfl rfl) hw (pmk_own PySem.F.excBase_ValueError XE.X_BadMarket.q XE.X_BadMarket.g XE.X_BadMarket.k XE.X_BadMarket.raises rfl))) mss_nil)), ?_⟩
    cases b with
    | true => wtm_at "go"
    | false => wtm_at "go"
  · exact h.elim
def vNum : SpM := fun ds m Q _ => ∃ (d : D) (l u : Int), ds = [d, .int l, .int u] ∧ Kd m d ∧ Q (.bl (okNum l u d)) m
abbrev s_is_whole : Stmt := topS 15
theorem sc_is_whole : FnScope ["number", "least", "most"] ["number", "least", "most"] (defScope s_is_whole) := ⟨rfl, rfl, rfl, by decide +kernel, rfl, by decide +kernel, by decide +kernel⟩
theorem ok_is_whole {k : Nat} (Z : Bl mg) {f_is_whole : Addr} {fd_is_whole : FuncData} (F : Fun K "is_whole" "is_whole" s_is_whole f_is_whole fd_is_whole) : FnM P w K mg base CX0 (k + 1) f_is_whole fd_is_whole ["number", "least", "most"] (vNum) := by
  refine fn_m F sc_is_whole (fun ds m Q E h => ?_) (fun cdv A outer s H ds m Q E E' hr h => ?_)
  · obtain ⟨d, l, u, rfl, _⟩ := h; rfl
  have nd := sc_is_whole.nd
  obtain ⟨d, l, u, rfl, hk, q⟩ := h
  refine ⟨_, (mss_one (ms_ret (mx_and (mx_callB mc_isinstance2 Z.b_isinstance (ma_cons (mv 0) (ma_cons (mx_ty (T := "int") Z.b_int) ma_nil))) (mx_and (mx_not (mx_callB mc_isinstance2 Z.b_isinstance (ma_cons (mv 0) (ma_cons (mx_ty (T := "bool") Z.b_bool) ma_nil)))) (mx_one (mx_chain mo_le mo_le (mv 1) (mv 0) (mv 2))))))), ?_⟩
  cases d with
  | int i =>
    wtm_at "go"
    refine i_ite (fun h1 => ?_) (fun h1 => ?_)
    · wtm_at "go"
      rw [show okNum l u (.int i) = decide (i ≤ u) by simp only [okNum, h1, Bool.true_and]] at q
      exact RtM.mk q
    · rw [show okNum l u (.int i) = false by simp only [okNum, h1, Bool.false_and]] at q
      exact RtM.mk q
  | _ => wtm_at "go"
theorem eqF_any {x : Str} : ∀ {l : List Str}, ((l.map D.str).any fun z => eqF z (.str x)) = l.any fun y => decide (x = y)
  | [] => rfl
  | y :: l => by
    simp only [List.map_cons, List.any_cons, eqF_any]
    congr 1
    show (y == x) = decide (x = y)
    by_cases e : x = y
    · subst e; simp
    · rw [decide_eq_false e]; exact beq_eq_false_iff_ne.mpr fun z => e z.symm
/-! what is right -/
def okStep : D → Bool
  | .tup [a, b] => okNum (1 - 1000000000000) (1000000000000 - 1) a && okNum 1 999 b
  | _ => false
def byOf : D → Int
  | .tup (.int i :: _) => i
  | _ => 0
def okSteps (seen : List Int) : List D → Bool
  | [] => true
  | d :: r => okStep d && !decide (byOf d ∈ seen) && okSteps (seen ++ [byOf d]) r
def okStepsD (m : Mem) : D → Bool
  | .ref a => match rdM m a with
    | some (.lst ss) => decide (1 ≤ ss.length) && decide (ss.length ≤ 4) && okSteps [] ss
    | _ => false
  | _ => false
theorem any_ints {i : Int} : ∀ {l : List Int}, ((l.map D.int).any fun z => eqF z (.int i)) = decide (i ∈ l)
  | [] => rfl
  | y :: l => by
    rw [List.map_cons, List.any_cons, any_ints, show eqF (.int y) (.int i) = (y == i) from rfl]
    by_cases e : y = i
    · subst e; simp
    · have : ¬ i = y := fun z => e z.symm
      simp [e, this]
def gSteps (C : Addr) : SpM := fun ds m Q E => ∃ (p : Addr) (d : D), ds = [.ref p, d] ∧ Kd m d ∧ (okStepsD m d = true → Q .non m) ∧ (okStepsD m d = false → ∀ M, Sub m M → E C M)
abbrev s_Market_need_steps : Stmt := inClass (topS 16) 1
theorem sc_Market_need_steps : FnScope ["self", "steps", "seen", "step"] ["self", "steps"] (defScope s_Market_need_steps) := ⟨rfl, rfl, rfl, by decide +kernel, rfl, by decide +kernel, by decide +kernel⟩
theorem ok_Market_need_steps {k : Nat} (V : Gv K mg) (Z : Bl mg) {c : Addr} {f_must : Addr} {fd_must : FuncData} (D_must : Df K mg "must" f_must fd_must ["good"]) (G_must : FnM P w K mg base (L2.CX P w) (k) f_must fd_must ["good"] (gMust c)) {f_is_whole : Addr} {fd_is_whole : FuncData} (D_is_whole : Df K mg "is_whole" f_is_whole fd_is_whole ["number", "least", "most"]) (G_is_whole : FnM P w K mg base CX0 (k) f_is_whole fd_is_whole ["number", "least", "most"] (vNum)) {f_Market_need_steps : Addr} {fd_Market_need_steps : FuncData} (F : Fun K "need_steps" "Market.need_steps" s_Market_need_steps f_Market_need_steps fd_Market_need_steps) : FnM P w K mg base (L2.CX P w) (k + 1) f_Market_need_steps fd_Market_need_steps ["self", "steps"] (gSteps c) := by
  refine fn_mX F sc_Market_need_steps (fun ds m Q E h => ?_) (fun cdv A outer s H ds m Q E E' hr h hw => ?_)
  · obtain ⟨p, d, rfl, _⟩ := h; rfl
  have nd := sc_Market_need_steps.nd
  obtain ⟨p, d, rfl, hk, q, qe⟩ := h
  refine ⟨_, (mss_cons (ms_expr (mx_call (Em := E) G_must hr D_must.m D_must.k D_must.b (passM (takes_of rfl rfl rfl rfl) hw) (ma_cons (mx_and (mx_callB mc_isinstance2 Z.b_isinstance (ma_cons (mv 1) (ma_cons (mx_ty (T := "list") Z.b_list) ma_nil))) (mx_one (mx_chain mo_le mo_le mx_int (mx_callB mc_len1 Z.b_len (ma_cons (mv 1) ma_nil)) (mx_gt V.MOST_STEPS)))) ma_nil)))
    (mss_cons (ms_set (i := 2) nd rfl (.inl rfl) (mx_lst ma_nil))
    (mss_one (ms_for (passes_of rfl) rfl (mi_list (mv 1)) (mg_name (i := 3) nd rfl (.inl rfl)) (mss_cons (ms_expr (mx_call (Em := E) G_must hr D_must.m D_must.k D_must.b (passM (takes_of rfl rfl rfl rfl) hw) (ma_cons (mx_and (mx_callB mc_isinstance2 Z.b_isinstance (ma_cons (mv 3) (ma_cons (mx_ty (T := "tuple") Z.b_tuple) ma_nil))) (mx_one (mx_cmp (mo_eqq hr) (mx_callB mc_len1 Z.b_len (ma_cons (mv 3) ma_nil)) mx_int (nomark _)))) ma_nil)))
    (mss_cons (ms_expr (mx_call (Em := E) G_must hr D_must.m D_must.k D_must.b (passM (takes_of rfl rfl rfl rfl) hw) (ma_cons (mx_and (mx_call (Em := noX) G_is_whole hr D_is_whole.m D_is_whole.k D_is_whole.b pass0M (ma_cons (mx_ix (mi_sub hr) (mv 3) mx_int) (ma_cons (mx_op mo_sub mx_int (mx_gt V.GREATEST)) (ma_cons (mx_op mo_sub (mx_gt V.GREATEST) mx_int) ma_nil)))) (mx_one (mx_call (Em := noX) G_is_whole hr D_is_whole.m D_is_whole.k D_is_whole.b pass0M (ma_cons (mx_ix (mi_sub hr) (mv 3) mx_int) (ma_cons mx_int (ma_cons (mx_gt V.MOST_WEIGHT) ma_nil)))))) ma_nil)))
    (mss_cons (ms_expr (mx_call (Em := E) G_must hr D_must.m D_must.k D_must.b (passM (takes_of rfl rfl rfl rfl) hw) (ma_cons (mx_cmp (mo_notin hr) (mx_ix (mi_sub hr) (mv 3) mx_int) (mv 2) rfl) ma_nil)))
    (mss_one (ms_expr (mx_append (mv 2) (mx_ix (mi_sub hr) (mv 3) mx_int))))))))))), ?_⟩
  cases d with
  | ref a =>
    cases hk with
    | @lst _ ss ea hss =>
    have ho : okStepsD m (.ref a) = (decide (1 ≤ ss.length) && decide (ss.length ≤ 4) && okSteps [] ss) := by simp only [okStepsD, ea]
    rw [ho] at q qe
    have hkr : Kd m (.ref a) := .lst ea hss
    wtm_at "go"
    by_cases h1 : 1 ≤ ss.length
    · rw [decide_eq_true (show (1 : Int) ≤ (ss.length : Int) by omega)]
      wtm_at "go"
      by_cases h4 : ss.length ≤ 4
      · rw [decide_eq_true (show (ss.length : Int) ≤ 4 by omega)]
        wtm_at "go"
        have q' : okSteps [] ss = true → Q .non m := fun h => q (by rw [decide_eq_true h1, decide_eq_true h4, h]; rfl)
        have qe' : okSteps [] ss = false → ∀ M, Sub m M → E c M := fun h => qe (by rw [h]; simp)
        clear q qe
        intro p2 hp2
        wtm_at "go"
        have n2 : p2 ≠ a := by rintro rfl; unfold rdM at ea; rw [hp2] at ea; cases ea
        refine ⟨ss, rdM_new hp2 ea, ?_⟩
        refine forC_ind (fun rest ρ M => ∃ (l1 : List D) (is : List Int) (e3 : Option D), ss = l1 ++ rest ∧ is.length = l1.length ∧ okSteps [] ss = okSteps is rest ∧ ρ = [some (.ref p), some (.ref a), some (.ref p2), e3] ∧ M = mput m p2 (.lst (is.map .int))) ⟨[], [], none, rfl, rfl, rfl, rfl, rfl⟩ ?_ ?_
        · rintro ρ M ⟨l1, is, e3, e, _, ho, rfl, rfl⟩
          refine ⟨rdM_new hp2 ea, ?_⟩
          exact RtM.sub (Sub.refl.new hp2) (q' ho)
        · rintro d rest ρ M K2 hK ⟨l1, is, e3, e, hl, ho, rfl, rfl⟩
          refine ⟨rdM_new hp2 ea, ?_⟩
          have hd : Kd m d := hss d (by rw [e]; simp)
          have sub : Sub m (mput m p2 (.lst (is.map .int))) := Sub.refl.new hp2
          have hd2 := hd.sub sub
          have bad : okStep d = false → E c (mput m p2 (.lst (is.map .int))) := fun h => qe' (by rw [ho, okSteps, h]; rfl) _ sub
          cases d with
          | tup r =>
            wtm_at "go"
            rcases r with _ | ⟨x, _ | ⟨y, _ | ⟨z, r⟩⟩⟩
            · wtm_at "go"; exact bad rfl
            · wtm_at "go"; exact bad rfl
            · have kx := hd2.tups x (by simp)
              have ky := hd2.tups y (by simp)
              wtm_at "go"
              refine ⟨x, _, _, rfl, kx, ?_⟩
              cases hx : okNum (1 - 1000000000000) (1000000000000 - 1) x with
              | false => wtm_at "go"; exact bad (by simp only [okStep, hx, Bool.false_and])
              | true =>
                wtm_at "go"
                refine ⟨y, _, _, rfl, ky, ?_⟩
                cases hy : okNum 1 999 y with
                | false => wtm_at "go"; exact bad (by simp only [okStep, hx, hy, Bool.and_false])
                | true =>
                  have hok : okStep (.tup [x, y]) = true := by simp only [okStep, hx, hy, Bool.and_self]
                  obtain ⟨i, rfl⟩ : ∃ i, x = .int i := by cases x <;> first | exact ⟨_, rfl⟩ | cases hx
                  wtm_at "go"
                  refine i_notin (in_lst (rd_L mput_same) rfl (by simp [flD])) ?_
                  rw [any_ints]
                  wtm_at "go"
                  by_cases hi : i ∈ is
                  · rw [decide_eq_true hi]
                    wtm_at "go"
                    exact qe' (by rw [ho, okSteps]; simp [byOf, hi]) _ sub
                  · rw [decide_eq_false hi]
                    wtm_at "go"
                    have hlen : ss.length = l1.length + (rest.length + 1) := by rw [e]; simp
                    refine ⟨⟨_, rd_L mput_same⟩, ?_⟩
                    wtm_at "go"
                    refine ⟨_, mput_same, small1000 (by rw [List.length_map]; omega), ?_⟩
                    refine hK _ _ ⟨l1 ++ [.tup [.int i, y]], is ++ [i], _, by rw [e]; simp, by simp [hl], ?_, rfl, by rw [mput_mput]; simp⟩
                    rw [ho, okSteps, hok]; simp [byOf, hi]
            · wtm_at "go"; exact bad rfl
          | _ => wtm_at "go"; exact bad rfl
      · rw [decide_eq_false (show ¬ (ss.length : Int) ≤ 4 by omega)]
        wtm_at "go"
        exact qe (by rw [decide_eq_false h4]; simp) _ Sub.refl
    · rw [decide_eq_false (show ¬ (1 : Int) ≤ (ss.length : Int) by omega)]
      wtm_at "go"
      exact qe (by rw [decide_eq_false h1]; simp) _ Sub.refl
  | _ => wtm_at "go"; exact qe rfl _ Sub.refl

local macro_rules | `(tactic| wtm_at "dec") => `(tactic| (simp; omega))
local macro_rules | `(tactic| wtm_at "dec") => `(tactic| (simp [isTy, isiB]; done))
local macro_rules | `(tactic| wtm_at "dec") => `(tactic| first | with_reducible rfl | (simp only [isN, ofString_inj, decide_eq_true_eq, decide_eq_false_iff_not, String.reduceEq, reduceCtorEq, not_false_eq_true, decide_true, decide_false, Bool.not_true, Bool.not_false, Bool.not_eq_true', Bool.not_eq_false', Int.reduceLT, Int.reduceLE, Int.reduceEq]; done) | (decide) | (simp; done) | fail)
local macro_rules | `(tactic| wtm_at "one") => `(tactic| first | (with_reducible refine gMust_in ?_) | ((with_reducible apply i_isiK); (focus assumption); (focus decide)))
local macro_rules | `(tactic| wtm_at "kdt") => `(tactic| (repeat' first | with_reducible assumption | with_reducible exact kdA_nil | with_reducible refine kdA_cons ?_ ?_ | with_reducible refine kdA_app ?_ ?_ | with_reducible exact Kd.non | with_reducible exact Kd.int _ | with_reducible exact Kd.bl _ | with_reducible exact kd_tup0 | ((with_reducible refine kd_tup ?_ ?_); (focus rfl)) | (refine Kd.str _ ?_ ?_ <;> decide +kernel)))
local macro_rules | `(tactic| wtm_at "one") => `(tactic| first
  | (with_reducible first | refine i_wsetF ?_ | refine i_wfld ?_ | refine i_wmeth ?_ | refine i_wmethS ?_ | refine i_wmake ?_ | refine i_wmakeS ?_)
  | ((with_reducible apply i_fld); (focus (wtm_at "mem")); (focus assumption); (focus (simp; done)); (focus (wtm_at "mlk")))
  | ((with_reducible apply i_meth); (focus (wtm_at "mem")); (focus (wtm_at "mlk"))))
local macro_rules | `(tactic| wtm_at "mem") => `(tactic| with_reducible first | assumption | exact mput_same | (apply mput_new; assumption; wtm_at "mem") | (apply mput_off; assumption; wtm_at "mem") | (apply mput_off'; assumption; wtm_at "mem") | (apply rd_K; wtm_at "mem") | (apply rd_L; wtm_at "mem") | (apply rd_T; wtm_at "mem") | (apply rd_I; wtm_at "mem") | (apply rd_frz; wtm_at "mem") | fail)
/-- a name that is read, its first number, its steps -/
structure Nx where
  w : Str
  b : Int
  st : List (Int × Int)
def Nx.sd (n : Nx) : List D := n.st.map fun s => .tup [.int s.1, .int s.2]
structure Nx.Ok (n : Nx) : Prop where
  w : okWord (.str n.w) = true
  b0 : 1 - 1000000000000 ≤ n.b
  b1 : n.b ≤ 1000000000000 - 1
  s1 : 1 ≤ n.st.length
  s4 : n.st.length ≤ 4
  sb : ∀ s ∈ n.st, (1 - 1000000000000 ≤ s.1 ∧ s.1 ≤ 1000000000000 - 1) ∧ 1 ≤ s.2 ∧ s.2 ≤ 999
  nd : (n.st.map (·.1)).Nodup
theorem okSteps_of : ∀ {ss : List D} {seen : List Int}, okSteps seen ss = true → ∃ st : List (Int × Int), ss = st.map (fun s => .tup [.int s.1, .int s.2]) ∧ (∀ s ∈ st, (1 - 1000000000000 ≤ s.1 ∧ s.1 ≤ 1000000000000 - 1) ∧ 1 ≤ s.2 ∧ s.2 ≤ 999) ∧ (st.map (·.1)).Nodup ∧ ∀ s ∈ st, s.1 ∉ seen
  | [], _, _ => ⟨[], rfl, by simp, by simp, by simp⟩
  | d :: r, seen, h => by
    rw [okSteps, Bool.and_eq_true, Bool.and_eq_true] at h
    obtain ⟨⟨h1, h2⟩, h3⟩ := h
    obtain ⟨st, rfl, a, b, c⟩ := okSteps_of h3
    unfold okStep at h1
    split at h1
    · rename_i x y
      rw [Bool.and_eq_true] at h1
      obtain ⟨hx, hy⟩ := h1
      obtain ⟨i, rfl⟩ : ∃ i, x = .int i := by cases x <;> first | exact ⟨_, rfl⟩ | cases hx
      obtain ⟨j, rfl⟩ : ∃ i, y = .int i := by cases y <;> first | exact ⟨_, rfl⟩ | cases hy
      simp only [okNum, Bool.and_eq_true, decide_eq_true_eq] at hx hy
      have h2 : i ∉ seen := by rw [Bool.not_eq_true'] at h2; exact of_decide_eq_false h2
      have c' : ∀ s ∈ st, s.1 ∉ seen ∧ s.1 ≠ i := fun s hs => by
        have := c s hs
        simp only [byOf, List.mem_append, List.mem_singleton, not_or] at this
        exact this
      refine ⟨(i, j) :: st, rfl, ?_, ?_, ?_⟩
      · intro s hs
        rcases List.mem_cons.mp hs with rfl | hs
        · exact ⟨hx, hy⟩
        · exact a s hs
      · rw [List.map_cons, List.nodup_cons]
        refine ⟨fun z => ?_, b⟩
        obtain ⟨s, hs, e⟩ := List.mem_map.mp z
        exact (c' s hs).2 e
      · intro s hs
        rcases List.mem_cons.mp hs with rfl | hs
        · exact h2
        · exact (c' s hs).1
    · cases h1
/-- how one of the names is handed in -/
def ArgN (m : Mem) (d : D) (n : Nx) : Prop := ∃ sp, d = .tup [.str n.w, .int n.b, .ref sp] ∧ rdM m sp = some (.lst n.sd)
def okNm (m : Mem) : D → Bool
  | .tup [w, b, st] => okWord w && okNum (1 - 1000000000000) (1000000000000 - 1) b && okStepsD m st
  | _ => false
def nameOf : D → Str
  | .tup (.str w :: _) => w
  | _ => ""
def okNms (m : Mem) (seen : List Str) : List D → Bool
  | [] => true
  | d :: r => okNm m d && !decide (nameOf d ∈ seen) && okNms m (seen ++ [nameOf d]) r
def okMk (m : Mem) (last names : D) : Bool := okNum 0 12 last && match names with
  | .ref a => match rdM m a with
    | some (.lst ds) => decide (ds.length ≤ 3) && okNms m [] ds
    | _ => false
  | _ => false
theorem okNm_of {m : Mem} {d : D} (h : okNm m d = true) : ∃ n : Nx, n.Ok ∧ ArgN m d n := by
  unfold okNm at h
  split at h
  · rename_i w b st
    rw [Bool.and_eq_true, Bool.and_eq_true] at h
    obtain ⟨⟨hw, hb⟩, hs⟩ := h
    obtain ⟨w, rfl⟩ : ∃ i, w = .str i := by cases w <;> first | exact ⟨_, rfl⟩ | cases hw
    obtain ⟨b, rfl⟩ : ∃ i, b = .int i := by cases b <;> first | exact ⟨_, rfl⟩ | cases hb
    simp only [okNum, Bool.and_eq_true, decide_eq_true_eq] at hb
    unfold okStepsD at hs
    split at hs
    · rename_i a
      split at hs
      · rename_i ss e
        rw [Bool.and_eq_true, Bool.and_eq_true, decide_eq_true_eq, decide_eq_true_eq] at hs
        obtain ⟨st, rfl, q1, q2, _⟩ := okSteps_of hs.2
        have l := hs.1
        rw [List.length_map] at l
        exact ⟨⟨w, b, st⟩, ⟨hw, hb.1, hb.2, l.1, l.2, q1, q2⟩, a, rfl, e⟩
      · cases hs
    · cases hs
  · cases h
/-- the fields of a market -/
def mkF0 (l : D) : List (Str × D) := [("last", l)]
def mkF1 (l : D) (an : Addr) : List (Str × D) := [("last", l), ("names", .ref an)]
def mkF2 (l : D) (an sn : Addr) : List (Str × D) := [("last", l), ("names", .ref an), ("steps", .ref sn)]
def mkF (l : D) (an sn : Addr) (b : D) : List (Str × D) := [("last", l), ("names", .ref an), ("steps", .ref sn), ("begun", b)]
theorem mkF0_p {l : D} : putFD "last" l [] = mkF0 l := rfl
theorem mkF1_p {l : D} {an : Addr} : putFD "names" (.ref an) (mkF0 l) = mkF1 l an := by simp [putFD, mkF0, mkF1, ofString_inj]
theorem mkF2_p {l : D} {an sn : Addr} : putFD "steps" (.ref sn) (mkF1 l an) = mkF2 l an sn := by simp [putFD, mkF1, mkF2, ofString_inj]
theorem mkF_p {l b : D} {an sn : Addr} : putFD "begun" b (mkF2 l an sn) = mkF l an sn b := by simp [putFD, mkF2, mkF, ofString_inj]
theorem lk_hit {f : Str} {d : D} {r : List (Str × D)} : ((f, d) :: r).lookup f = some d := by simp [List.lookup]
theorem lk_miss {f g : Str} {d : D} {r : List (Str × D)} (h : f ≠ g) : ((g, d) :: r).lookup f = r.lookup f := by
  have : (f == g) = false := beq_eq_false_iff_ne.mpr h
  simp [List.lookup, this]
theorem mkF2_names {l : D} {an sn : Addr} : List.lookup ("names" : Str) (mkF2 l an sn) = some (.ref an) := by unfold mkF2; rw [lk_miss (by simp [ofString_inj]), lk_hit]
theorem mkF2_steps {l : D} {an sn : Addr} : List.lookup ("steps" : Str) (mkF2 l an sn) = some (.ref sn) := by unfold mkF2; rw [lk_miss (by simp [ofString_inj]), lk_miss (by simp [ofString_inj]), lk_hit]
theorem mkF2_ns {l : D} {an sn : Addr} : List.lookup ("need_steps" : Str) (mkF2 l an sn) = none := by unfold mkF2; rw [lk_miss (by simp [ofString_inj]), lk_miss (by simp [ofString_inj]), lk_miss (by simp [ofString_inj])]; rfl
theorem mkF_last {l b : D} {an sn : Addr} : List.lookup ("last" : Str) (mkF l an sn b) = some l := by unfold mkF; rw [lk_hit]
theorem mkF_names {l b : D} {an sn : Addr} : List.lookup ("names" : Str) (mkF l an sn b) = some (.ref an) := by unfold mkF; rw [lk_miss (by simp [ofString_inj]), lk_hit]
theorem mkF_steps {l b : D} {an sn : Addr} : List.lookup ("steps" : Str) (mkF l an sn b) = some (.ref sn) := by unfold mkF; rw [lk_miss (by simp [ofString_inj]), lk_miss (by simp [ofString_inj]), lk_hit]
theorem mkF_begun {l b : D} {an sn : Addr} : List.lookup ("begun" : Str) (mkF l an sn b) = some b := by unfold mkF; rw [lk_miss (by simp [ofString_inj]), lk_miss (by simp [ofString_inj]), lk_miss (by simp [ofString_inj]), lk_hit]
local macro_rules | `(tactic| wtm_at "mlk") => `(tactic| with_reducible first | exact mkF2_names | exact mkF2_steps | exact mkF_last | exact mkF_names | exact mkF_steps | exact mkF_begun | exact mkF2_ns)
abbrev Two {α β : Type} (R : α → β → Prop) : List α → List β → Prop := Paired R
theorem two_snoc {α β : Type} {R : α → β → Prop} {as : List α} {bs : List β} {a : α} {b : β} (h : Two R as bs) (r : R a b) : Two R (as ++ [a]) (bs ++ [b]) := by
  induction h with
  | nil => exact .cons r .nil
  | cons h _ ih => exact .cons h ih
theorem two_mono {α β : Type} {R S : α → β → Prop} {as : List α} {bs : List β} (h : Two R as bs) (f : ∀ a b, a ∈ as → R a b → S a b) : Two S as bs := by
  induction h with
  | nil => exact .nil
  | cons h _ ih => exact .cons (f _ _ (.head _) h) (ih fun a b ha => f a b (.tail _ ha))
/-- all but what stands at p stays -/
def SubX (p : Addr) (m M : Mem) : Prop := ∀ b o, m b = some o → b ≠ p → M b = some o
theorem SubX.refl {p : Addr} {m : Mem} : SubX p m m := fun _ _ h _ => h
theorem SubX.trans {p : Addr} {m M N : Mem} (h : SubX p m M) (k : SubX p M N) : SubX p m N := fun b o e ne => k b o (h b o e ne) ne
theorem Sub.subX {p : Addr} {m M : Mem} (h : Sub m M) : SubX p m M := fun b o e _ => h b o e
theorem SubX.here {p : Addr} {m : Mem} {o : O} : SubX p m (mput m p o) := fun b u e ne => by rw [mput_ne ne]; exact e
theorem SubX.put {p a : Addr} {m M : Mem} {o : O} (h : SubX p m M) (n : m a = none) : SubX p m (mput M a o) := fun b u e ne => by
  rw [mput_ne]; exact h b u e ne
  rintro rfl; rw [n] at e; cases e
theorem SubX.rd {p a : Addr} {m M : Mem} {ds : List D} (h : SubX p m M) (e : rdM m a = some (.lst ds)) (hp : ∀ ds, rdM m p ≠ some (.lst ds)) : rdM M a = some (.lst ds) := by
  have ne : a ≠ p := by rintro rfl; exact hp _ e
  unfold rdM at e ⊢
  cases c : m a with
  | none => rw [c] at e; cases e
  | some u => rw [c] at e; rw [h _ _ c ne]; exact e
theorem Kd.subX {p : Addr} {m M : Mem} (s : SubX p m M) (hp : ∀ ds, rdM m p ≠ some (.lst ds)) {d : D} (h : Kd m d) : Kd M d := by
  induction h with
  | non => exact .non
  | bl b => exact .bl b
  | int i => exact .int i
  | str x h1 h2 => exact .str x h1 h2
  | tup _ ih => exact .tup ih
  | lst e _ ih => exact .lst (s.rd e hp) ih
/-- a market stands at p -/
structure MkAt (C : Addr) (m : Mem) (p : Addr) (l : Int) (ns : List Nx) : Prop where
  e : ∃ (an sn : Addr) (ps : List Addr), m p = some (.ins C (mkF (.int l) an sn (.tup (ns.map fun n => .int n.b)))) ∧ m an = some (.lst (ns.map fun n => .str n.w)) ∧ m sn = some (.lst (ps.map .ref)) ∧ Two (fun q (n : Nx) => m q = some (.lst n.sd)) ps ns
  l0 : 0 ≤ l
  l1 : l ≤ 12
  n3 : ns.length ≤ 3
  ok : ∀ n ∈ ns, n.Ok
  nd : (ns.map (·.w)).Nodup
/-- what was handed in -/
def Arg (m : Mem) (last names : D) (l : Int) (ns : List Nx) : Prop := last = .int l ∧ ∃ a ds, names = .ref a ∧ rdM m a = some (.lst ds) ∧ Two (ArgN m) ds ns
def gInit (C c : Addr) : SpM := fun ds m Q E => ∃ (p : Addr) (last names : D), ds = [.ref p, last, names] ∧ m p = some (.ins C []) ∧ Kd m last ∧ Kd m names ∧
  (okMk m last names = true → ∀ M l ns, SubX p m M → Arg m last names l ns → MkAt C M p l ns → Q .non M) ∧ (okMk m last names = false → ∀ M, SubX p m M → E c M)
theorem any_strs {i : Str} : ∀ {l : List Str}, ((l.map D.str).any fun z => eqF z (.str i)) = decide (i ∈ l)
  | [] => rfl
  | y :: l => by
    rw [List.map_cons, List.any_cons, any_strs, show eqF (.str y) (.str i) = (y == i) from rfl]
    by_cases e : y = i
    · subst e; simp
    · have : ¬ i = y := fun z => e z.symm
      simp [e, this]
theorem rangeD_drop {n k : Nat} {d : D} {r : List D} (h : d :: r = (rangeD 0 n).drop k) : d = .int (k : Nat) ∧ r = (rangeD 0 n).drop (k + 1) ∧ k < n := by
  have hl : k < (rangeD 0 n).length := by
    refine Nat.lt_of_not_le fun z => ?_
    rw [List.drop_eq_nil_of_le z] at h; cases h
  rw [List.drop_eq_getElem_cons hl] at h
  injection h with h1 h2
  have hn : k < n := by simpa [rangeD] using hl
  refine ⟨h1.trans ?_, h2, hn⟩
  simp [rangeD]
theorem rangeD_nil {n k : Nat} (h : [] = (rangeD 0 n).drop k) (hk : k ≤ n) : k = n := by
  have := congrArg List.length h
  simp [rangeD] at this
  omega
theorem list_drop {α : Type} {L : List α} {i : Nat} {d : α} {r : List α} (h : d :: r = L.drop i) : L[i]? = some d ∧ r = L.drop (i + 1) ∧ i < L.length := by
  have hl : i < L.length := by
    refine Nat.lt_of_not_le fun z => ?_
    rw [List.drop_eq_nil_of_le z] at h; cases h
  rw [List.drop_eq_getElem_cons hl] at h
  injection h with h1 h2
  exact ⟨by rw [h1]; simp [hl], h2, hl⟩
theorem list_nil {α : Type} {L : List α} {i : Nat} (h : [] = L.drop i) (hk : i ≤ L.length) : i = L.length := by
  have := congrArg List.length h
  rw [List.length_drop] at this
  simp at this
  omega
theorem two_get {α β : Type} {R : α → β → Prop} {as : List α} {bs : List β} (h : Two R as bs) : ∀ {j : Nat} {b : β}, bs[j]? = some b → ∃ a, as[j]? = some a ∧ R a b := by
  induction h with
  | nil => intro j b e; simp at e
  | cons h _ ih =>
    intro j b e
    cases j with
    | zero => simp at e; subst e; exact ⟨_, by simp, h⟩
    | succ j => simpa using ih (by simpa using e)

local macro_rules | `(tactic| wtm_at "dec") => `(tactic| (simp; omega))
local macro_rules | `(tactic| wtm_at "dec") => `(tactic| (simp [isTy, isiB]; done))
local macro_rules | `(tactic| wtm_at "dec") => `(tactic| first | with_reducible rfl | (simp only [isN, ofString_inj, decide_eq_true_eq, decide_eq_false_iff_not, String.reduceEq, reduceCtorEq, not_false_eq_true, decide_true, decide_false, Bool.not_true, Bool.not_false, Bool.not_eq_true', Bool.not_eq_false', Int.reduceLT, Int.reduceLE, Int.reduceEq]; done) | (decide) | (simp; done) | fail)
local macro_rules | `(tactic| wtm_at "one") => `(tactic| first | (with_reducible refine gMust_in ?_) | ((with_reducible apply i_isiK); (focus assumption); (focus decide)))
local macro_rules | `(tactic| wtm_at "kdt") => `(tactic| (repeat' first | with_reducible assumption | with_reducible exact kdA_nil | with_reducible refine kdA_cons ?_ ?_ | with_reducible refine kdA_app ?_ ?_ | with_reducible exact Kd.non | with_reducible exact Kd.int _ | with_reducible exact Kd.bl _ | with_reducible exact kd_tup0 | ((with_reducible refine kd_tup ?_ ?_); (focus rfl)) | (refine Kd.str _ ?_ ?_ <;> decide +kernel)))
local macro_rules | `(tactic| wtm_at "one") => `(tactic| first
  | (with_reducible first | refine i_wsetF ?_ | refine i_wfld ?_ | refine i_wmeth ?_ | refine i_wmethS ?_ | refine i_wmake ?_ | refine i_wmakeS ?_)
  | ((with_reducible apply i_fld); (focus (wtm_at "mem")); (focus assumption); (focus (simp; done)); (focus (wtm_at "mlk")))
  | ((with_reducible apply i_meth); (focus (wtm_at "mem")); (focus (wtm_at "mlk"))))
local macro_rules | `(tactic| wtm_at "mem") => `(tactic| with_reducible first | assumption | exact mput_same | (apply mput_new; assumption; wtm_at "mem") | (apply mput_off; assumption; wtm_at "mem") | (apply mput_off'; assumption; wtm_at "mem") | (apply rd_K; wtm_at "mem") | (apply rd_L; wtm_at "mem") | (apply rd_T; wtm_at "mem") | (apply rd_I; wtm_at "mem") | (apply rd_frz; wtm_at "mem") | fail)
local macro_rules | `(tactic| wtm_at "mlk") => `(tactic| with_reducible first | exact mkF2_names | exact mkF2_steps | exact mkF_last | exact mkF_names | exact mkF_steps | exact mkF_begun | exact mkF2_ns)
/-- the loop of the making: so far -/
structure InitL (C p an sn bn : Addr) (l : Int) (m : Mem) (M : Mem) (ns : List Nx) : Prop where
  x : SubX p m M
  e : ∃ ps : List Addr, M sn = some (.lst (ps.map .ref)) ∧ Two (fun q (n : Nx) => M q = some (.lst n.sd)) ps ns ∧ (∀ q ∈ ps, q ≠ p ∧ q ≠ an ∧ q ≠ sn ∧ q ≠ bn) ∧ ps.length = ns.length
  ep : M p = some (.ins C (mkF2 (.int l) an sn))
  ea : M an = some (.lst (ns.map fun n => .str n.w))
  eb : M bn = some (.lst (ns.map fun n => .int n.b))
  ok : ∀ n ∈ ns, n.Ok
  nd : (ns.map (·.w)).Nodup
theorem two_mem {α β : Type} {R : α → β → Prop} {as : List α} {bs : List β} (h : Two R as bs) {a : α} (ha : a ∈ as) : ∃ b, b ∈ bs ∧ R a b := by
  induction h with
  | nil => cases ha
  | cons h _ ih =>
    rcases List.mem_cons.mp ha with rfl | ha
    · exact ⟨_, .head _, h⟩
    · obtain ⟨b, hb, r⟩ := ih ha
      exact ⟨b, .tail _ hb, r⟩
theorem okStepsD_x {p : Addr} {m M : Mem} (x : SubX p m M) (hp : ∀ ds, rdM m p ≠ some (.lst ds)) {d : D} (k : Kd m d) : okStepsD M d = okStepsD m d := by
  cases k with
  | lst e _ => simp only [okStepsD, e, x.rd e hp]
  | _ => rfl
abbrev s_Market___init__ : Stmt := inClass (topS 16) 0
theorem sc_Market___init__ : FnScope ["self", "last", "names", "begun", "one"] ["self", "last", "names"] (defScope s_Market___init__) := ⟨rfl, rfl, rfl, by decide +kernel, rfl, by decide +kernel, by decide +kernel⟩
theorem ok_Market___init__ {k : Nat} (V : Gv K mg) (Z : Bl mg) {c_Market c : Addr} (O : ObK K c_Market ["last", "names", "steps", "begun"]) {f_must : Addr} {fd_must : FuncData} (D_must : Df K mg "must" f_must fd_must ["good"]) (G_must : FnM P w K mg base (L2.CX P w) (k) f_must fd_must ["good"] (gMust c)) {f_is_whole : Addr} {fd_is_whole : FuncData} (D_is_whole : Df K mg "is_whole" f_is_whole fd_is_whole ["number", "least", "most"]) (G_is_whole : FnM P w K mg base CX0 (k) f_is_whole fd_is_whole ["number", "least", "most"] (vNum)) {f_is_word : Addr} {fd_is_word : FuncData} (D_is_word : Df K mg "is_word" f_is_word fd_is_word ["word"]) (G_is_word : FnM P w K mg base CX0 (k) f_is_word fd_is_word ["word"] (gWord)) {f_Market_need_steps : Addr} {fd_Market_need_steps : FuncData} (D_Market_need_steps : Dm K c_Market "need_steps" f_Market_need_steps fd_Market_need_steps ["self", "steps"]) (G_Market_need_steps : FnM P w K mg base (L2.CX P w) (k) f_Market_need_steps fd_Market_need_steps ["self", "steps"] (gSteps c)) {f_Market___init__ : Addr} {fd_Market___init__ : FuncData} (F : Fun K "__init__" "Market.__init__" s_Market___init__ f_Market___init__ fd_Market___init__) : FnM P w K mg base (L2.CX P w) (k + 1) f_Market___init__ fd_Market___init__ ["self", "last", "names"] (gInit c_Market c) := by
  refine fn_mX F sc_Market___init__ (fun ds m Q E h => ?_) (fun cdv A outer s H ds m Q E E' hr h hw => ?_)
  · obtain ⟨p, last, names, rfl, _⟩ := h; rfl
  have nd := sc_Market___init__.nd
  obtain ⟨p, last, names, rfl, hp, kl, kn, q, qe⟩ := h
  refine ⟨_, (mss_cons (ms_expr (mx_call (Em := E) G_must hr D_must.m D_must.k D_must.b (passM (takes_of rfl rfl rfl rfl) hw) (ma_cons (mx_and (mx_call (Em := noX) G_is_whole hr D_is_whole.m D_is_whole.k D_is_whole.b pass0M (ma_cons (mv 1) (ma_cons mx_int (ma_cons (mx_gt V.MOST_LAST) ma_nil)))) (mx_and (mx_callB mc_isinstance2 Z.b_isinstance (ma_cons (mv 2) (ma_cons (mx_ty (T := "list") Z.b_list) ma_nil))) (mx_one (mx_cmp mo_le (mx_callB mc_len1 Z.b_len (ma_cons (mv 2) ma_nil)) (mx_gt V.MOST_NAMES) (nomark _))))) ma_nil)))
    (mss_cons (ms_fld (mv 0) (mv 1) rfl)
    (mss_cons (ms_fld (mv 0) (mx_lst ma_nil) rfl)
    (mss_cons (ms_fld (mv 0) (mx_lst ma_nil) rfl)
    (mss_cons (ms_set (i := 3) nd rfl (.inl rfl) (mx_lst ma_nil))
    (mss_cons (ms_for (passes_of rfl) rfl (mi_list (mv 2)) (mg_name (i := 4) nd rfl (.inl rfl)) (mss_cons (ms_expr (mx_call (Em := E) G_must hr D_must.m D_must.k D_must.b (passM (takes_of rfl rfl rfl rfl) hw) (ma_cons (mx_and (mx_callB mc_isinstance2 Z.b_isinstance (ma_cons (mv 4) (ma_cons (mx_ty (T := "tuple") Z.b_tuple) ma_nil))) (mx_one (mx_cmp (mo_eqq hr) (mx_callB mc_len1 Z.b_len (ma_cons (mv 4) ma_nil)) mx_int (nomark _)))) ma_nil)))
    (mss_cons (ms_expr (mx_call (Em := E) G_must hr D_must.m D_must.k D_must.b (passM (takes_of rfl rfl rfl rfl) hw) (ma_cons (mx_and (mx_call (Em := noX) G_is_word hr D_is_word.m D_is_word.k D_is_word.b pass0M (ma_cons (mx_ix (mi_sub hr) (mv 4) mx_int) ma_nil)) (mx_one (mx_cmp (mo_notin hr) (mx_ix (mi_sub hr) (mv 4) mx_int) (mx_fld (mv 0) rfl) rfl))) ma_nil)))
    (mss_cons (ms_expr (mx_call (Em := E) G_must hr D_must.m D_must.k D_must.b (passM (takes_of rfl rfl rfl rfl) hw) (ma_cons (mx_call (Em := noX) G_is_whole hr D_is_whole.m D_is_whole.k D_is_whole.b pass0M (ma_cons (mx_ix (mi_sub hr) (mv 4) mx_int) (ma_cons (mx_op mo_sub mx_int (mx_gt V.GREATEST)) (ma_cons (mx_op mo_sub (mx_gt V.GREATEST) mx_int) ma_nil)))) ma_nil)))
    (mss_cons (ms_expr (mx_meth (Em := E) (mv 0) D_Market_need_steps.c D_Market_need_steps.m G_Market_need_steps hr D_Market_need_steps.b (passM (takes_of rfl rfl rfl rfl) hw) (ma_cons (mx_ix (mi_sub hr) (mv 4) mx_int) ma_nil)))
    (mss_cons (ms_expr (mx_append (mx_fld (mv 0) rfl) (mx_ix (mi_sub hr) (mv 4) mx_int)))
    (mss_cons (ms_expr (mx_append (mx_fld (mv 0) rfl) (mx_callTy mc_list1 Z.b_list (ma_cons (mx_ix (mi_sub hr) (mv 4) mx_int) ma_nil))))
    (mss_one (ms_expr (mx_append (mv 3) (mx_ix (mi_sub hr) (mv 4) mx_int)))))))))))
    (mss_one (ms_fld (mv 0) (mx_callTy mc_tuple1 Z.b_tuple (ma_cons (mv 3) ma_nil)) rfl)))))))), ?_⟩
  have hpl : ∀ ds, rdM m p ≠ some (.lst ds) := fun ds z => by rw [rd_I hp] at z; cases z
  wtm_at "go"
  refine ⟨last, _, _, rfl, kl, ?_⟩
  cases hl : okNum 0 12 last with
  | false => wtm_at "go"; exact qe (by unfold okMk; rw [hl]; rfl) _ SubX.refl
  | true =>
  obtain ⟨l, rfl⟩ : ∃ i, last = .int i := by cases last <;> first | exact ⟨_, rfl⟩ | cases hl
  have hl2 : 0 ≤ l ∧ l ≤ 12 := by simpa [okNum] using hl
  cases names with
  | ref a =>
    cases kn with
    | @lst _ ds ea hds =>
    have kn : Kd m (.ref a) := .lst ea hds
    have ho : okMk m (.int l) (.ref a) = (decide (ds.length ≤ 3) && okNms m [] ds) := by simp only [okMk, hl, ea, Bool.true_and]
    rw [ho] at q qe
    wtm_at "go"
    by_cases h3 : ds.length ≤ 3
    · rw [decide_eq_true (show (ds.length : Int) ≤ 3 by omega)]
      wtm_at "go"
      have q' : okNms m [] ds = true → ∀ M l ns, SubX p m M → Arg m (.int _) (.ref a) l ns → MkAt c_Market M p l ns → Q .non M := fun h => q (by rw [decide_eq_true h3, h]; rfl)
      have qe' : okNms m [] ds = false → ∀ M, SubX p m M → E c M := fun h => qe (by rw [h]; simp)
      clear q qe
      refine i_setF hp O (by simp) (by decide) ?_
      rw [mkF0_p]
      have e0 : mput m p (.ins c_Market (mkF0 (.int l))) p = _ := mput_same
      have x0 : SubX p m (mput m p (.ins c_Market (mkF0 (.int l)))) := SubX.here
      generalize mput m p (.ins c_Market (mkF0 (.int l))) = M0 at e0 x0 ⊢
      wtm_at "go"
      intro an han
      have nan : m an = none := by
        cases e : m an with
        | none => rfl
        | some o =>
          by_cases z : an = p
          · rw [z, e0] at han; cases han
          · rw [x0 _ _ e z] at han; cases han
      have npn : p ≠ an := by rintro rfl; rw [e0] at han; cases han
      wtm_at "go"
      refine i_setF (mput_new han e0) O (by simp) (by show 1 < 1000; decide) ?_
      rw [mkF1_p]
      have e1 : mput (mput M0 an (.lst [])) p (.ins c_Market (mkF1 (.int l) an)) p = _ := mput_same
      have x1 : SubX p m (mput (mput M0 an (.lst [])) p (.ins c_Market (mkF1 (.int l) an))) := (x0.put nan).trans SubX.here
      have a1 : mput (mput M0 an (.lst [])) p (.ins c_Market (mkF1 (.int l) an)) an = some (.lst []) := by rw [mput_ne npn.symm, mput_same]
      generalize mput (mput M0 an (.lst [])) p (.ins c_Market (mkF1 (.int l) an)) = M1 at e1 x1 a1 ⊢
      clear e0 x0 han
      wtm_at "go"
      intro sn hsn
      have nsn : m sn = none := by
        cases e : m sn with
        | none => rfl
        | some o =>
          by_cases z : sn = p
          · rw [z, e1] at hsn; cases hsn
          · rw [x1 _ _ e z] at hsn; cases hsn
      have nps : p ≠ sn := by rintro rfl; rw [e1] at hsn; cases hsn
      have nas : an ≠ sn := by rintro rfl; rw [a1] at hsn; cases hsn
      wtm_at "go"
      refine i_setF (mput_new hsn e1) O (by simp) (by show 2 < 1000; decide) ?_
      rw [mkF2_p]
      have e2 : mput (mput M1 sn (.lst [])) p (.ins c_Market (mkF2 (.int l) an sn)) p = _ := mput_same
      have x2 : SubX p m (mput (mput M1 sn (.lst [])) p (.ins c_Market (mkF2 (.int l) an sn))) := (x1.put nsn).trans SubX.here
      have a2 : mput (mput M1 sn (.lst [])) p (.ins c_Market (mkF2 (.int l) an sn)) an = some (.lst []) := by rw [mput_ne npn.symm, mput_ne nas]; exact a1
      have s2 : mput (mput M1 sn (.lst [])) p (.ins c_Market (mkF2 (.int l) an sn)) sn = some (.lst []) := by rw [mput_ne nps.symm, mput_same]
      generalize mput (mput M1 sn (.lst [])) p (.ins c_Market (mkF2 (.int l) an sn)) = M2 at e2 x2 a2 s2 ⊢
      clear e1 x1 a1 hsn
      wtm_at "go"
      intro bn hbn
      have nbn : m bn = none := by
        cases e : m bn with
        | none => rfl
        | some o =>
          by_cases z : bn = p
          · rw [z, e2] at hbn; cases hbn
          · rw [x2 _ _ e z] at hbn; cases hbn
      have npb : p ≠ bn := by rintro rfl; rw [e2] at hbn; cases hbn
      have nab : an ≠ bn := by rintro rfl; rw [a2] at hbn; cases hbn
      have nsb : sn ≠ bn := by rintro rfl; rw [s2] at hbn; cases hbn
      have L0 : InitL c_Market p an sn bn l m (mput M2 bn (.lst [])) [] := ⟨x2.put nbn, ⟨[], mput_new hbn s2, .nil, (fun _ h => nomatch h), rfl⟩, mput_new hbn e2, mput_new hbn a2, mput_same, (fun _ h => nomatch h), .nil⟩
      generalize mput M2 bn (.lst []) = M3 at L0 ⊢
      clear e2 x2 a2 s2 hbn
      wtm_at "go"
      refine ⟨ds, L0.x.rd ea hpl, ?_⟩
      refine forC_ind (fun rest ρ M => ∃ (l1 : List D) (ns : List Nx) (e4 : Option D), ds = l1 ++ rest ∧ Two (ArgN m) l1 ns ∧ okNms m [] ds = okNms m (ns.map (·.w)) rest ∧ ρ = [some (.ref p), some (.int l), some (.ref a), some (.ref bn), e4] ∧ InitL c_Market p an sn bn l m M ns) ⟨[], [], none, rfl, .nil, rfl, rfl, L0⟩ ?_ ?_
      · rintro ρ M ⟨l1, ns, e4, e, tw, ho, rfl, L⟩
        refine ⟨L.x.rd ea hpl, ?_⟩
        have Lb := L.eb
        have Lp := L.ep
        have Lbr := rd_L Lb
        wtm_at "go"
        refine i_setF Lp O (by simp) (by show 3 < 1000; decide) ?_
        rw [mkF_p]
        obtain ⟨ps, s1, s2, s3, s4⟩ := L.e
        rw [List.append_nil] at e
        subst e
        have hlen := Paired.length tw
        exact RtM.mk (q' ho _ l ns (L.x.trans SubX.here) ⟨rfl, a, ds, rfl, ea, tw⟩ ⟨⟨an, sn, ps, mput_same, by rw [mput_ne npn.symm]; exact L.ea, by rw [mput_ne nps.symm]; exact s1, two_mono s2 fun q n hq h => by rw [mput_ne (s3 q hq).1]; exact h⟩, hl2.1, hl2.2, by omega, L.ok, L.nd⟩)
      · rintro d rest ρ M K2 hK ⟨l1, ns, e4, e, tw, ho, rfl, L⟩
        refine ⟨L.x.rd ea hpl, ?_⟩
        have hdm : Kd m d := hds d (by rw [e]; simp)
        have hd2 : Kd M d := hdm.subX L.x hpl
        have bad : ∀ M', Sub M M' → okNm m d = false → E c M' := fun M' t h => qe' (by rw [ho, okNms, h]; rfl) _ (L.x.trans t.subX)
        have Lp := L.ep
        have La := L.ea
        have Lar := rd_L La
        cases d with
        | tup r =>
          rcases r with _ | ⟨w, _ | ⟨b, _ | ⟨st, _ | ⟨z, r⟩⟩⟩⟩
          · wtm_at "go"; exact bad _ Sub.refl rfl
          · wtm_at "go"; exact bad _ Sub.refl rfl
          · wtm_at "go"; exact bad _ Sub.refl rfl
          · have kw := hd2.tups w (by simp)
            have kb := hd2.tups b (by simp)
            have ks := hd2.tups st (by simp)
            have ksm := hdm.tups st (by simp)
            wtm_at "go"
            refine ⟨w, rfl, kw, ?_⟩
            cases hw' : okWord w with
            | false => wtm_at "go"; exact bad _ Sub.refl (by simp only [okNm, hw', Bool.false_and])
            | true =>
              obtain ⟨w, rfl⟩ : ∃ i, w = .str i := by cases w <;> first | exact ⟨_, rfl⟩ | cases hw'
              wtm_at "go"
              refine i_notin (in_lst Lar rfl (by simp [flD])) ?_
              have eN : (ns.map fun n => D.str n.w) = (ns.map (·.w)).map D.str := by simp
              rw [eN, any_strs]
              by_cases hin : w ∈ ns.map (·.w)
              · rw [decide_eq_true hin]
                wtm_at "go"
                exact qe' (by rw [ho, okNms]; simp [nameOf, hin]) _ L.x
              · rw [decide_eq_false hin]
                wtm_at "go"
                refine ⟨b, _, _, rfl, kb, ?_⟩
                cases hb : okNum (1 - 1000000000000) (1000000000000 - 1) b with
                | false => wtm_at "go"; exact bad _ Sub.refl (by simp only [okNm, hw', hb, Bool.and_false, Bool.false_and])
                | true =>
                  obtain ⟨b, rfl⟩ : ∃ i, b = .int i := by cases b <;> first | exact ⟨_, rfl⟩ | cases hb
                  wtm_at "go"
                  have es : okStepsD M st = okStepsD m st := okStepsD_x L.x hpl ksm
                  refine ⟨p, st, rfl, ks, fun hs => ?_, fun hs M' t => bad _ t (by simp only [okNm, hw', hb, es ▸ hs, Bool.and_false])⟩
                  rw [es] at hs
                  have okd : okNm m (.tup [.str w, .int b, st]) = true := by simp only [okNm, hw', hb, hs, Bool.and_self]
                  obtain ⟨n, hn, sp, en, esp⟩ := okNm_of okd
                  obtain ⟨e1, e2, e3⟩ : w = n.w ∧ b = n.b ∧ st = .ref sp := by
                    injection en with en; injection en with a1 en; injection en with a2 en; injection en with a3
                    exact ⟨D.str.inj a1, D.int.inj a2, a3⟩
                  subst e1 e2 e3
                  wtm_at "go"
                  refine ⟨⟨_, Lar⟩, ?_⟩
                  wtm_at "go"
                  have hln : ns.length < 3 := by
                    have h1 := Paired.length tw
                    have h2 : ds.length = l1.length + (rest.length + 1) := by rw [e]; simp
                    omega
                  refine ⟨_, La, small1000 (by rw [List.length_map]; omega), ?_⟩
                  obtain ⟨ps, s1, s2, s3, s4⟩ := L.e
                  have La' : mput M an (.lst ((ns.map fun n => .str n.w) ++ [.str n.w])) an = some (.lst ((ns ++ [n]).map fun n => .str n.w)) := by rw [mput_same]; simp
                  have Lp' : mput M an (.lst ((ns.map fun n => .str n.w) ++ [.str n.w])) p = _ := (mput_ne npn).trans Lp
                  have Ls' : mput M an (.lst ((ns.map fun n => .str n.w) ++ [.str n.w])) sn = _ := (mput_ne nas.symm).trans s1
                  have Lb' : mput M an (.lst ((ns.map fun n => .str n.w) ++ [.str n.w])) bn = _ := (mput_ne nab.symm).trans L.eb
                  have Lq' : Two (fun q (n' : Nx) => mput M an (.lst ((ns.map fun n => .str n.w) ++ [.str n.w])) q = some (.lst n'.sd)) ps ns := two_mono s2 fun q n' hq h => (mput_ne (s3 q hq).2.1).trans h
                  have x' : SubX p m (mput M an (.lst ((ns.map fun n => .str n.w) ++ [.str n.w]))) := L.x.put nan
                  generalize mput M an (.lst ((ns.map fun n => .str n.w) ++ [.str n.w])) = M1 at La' Lp' Ls' Lb' Lq' x' ⊢
                  have Lsr := rd_L Ls'
                  have espM := x'.rd esp hpl
                  wtm_at "go"
                  refine ⟨⟨_, Lsr⟩, ?_⟩
                  wtm_at "go"
                  intro qn hqn
                  have nq : m qn = none := by
                    cases z : m qn with
                    | none => rfl
                    | some o =>
                      by_cases y : qn = p
                      · rw [y, Lp'] at hqn; cases hqn
                      · rw [x' _ _ z y] at hqn; cases hqn
                  have q1 : qn ≠ p := by rintro rfl; rw [Lp'] at hqn; cases hqn
                  have q2 : qn ≠ an := by rintro rfl; rw [La'] at hqn; cases hqn
                  have q3 : qn ≠ sn := by rintro rfl; rw [Ls'] at hqn; cases hqn
                  have q4 : qn ≠ bn := by rintro rfl; rw [Lb'] at hqn; cases hqn
                  have q5 : ∀ q ∈ ps, q ≠ qn := fun q hq => by
                    rintro rfl
                    obtain ⟨n', _, z⟩ := two_mem Lq' hq
                    rw [z] at hqn; cases hqn
                  refine ⟨_, mput_new hqn Ls', small1000 (by rw [List.length_map]; omega), ?_⟩
                  have Ls2 : mput (mput M1 qn (.lst n.sd)) sn (.lst (ps.map .ref ++ [.ref qn])) sn = some (.lst ((ps ++ [qn]).map .ref)) := by rw [mput_same]; simp
                  have Lp2 : mput (mput M1 qn (.lst n.sd)) sn (.lst (ps.map .ref ++ [.ref qn])) p = _ := (mput_ne nps).trans ((mput_ne q1.symm).trans Lp')
                  have La2 : mput (mput M1 qn (.lst n.sd)) sn (.lst (ps.map .ref ++ [.ref qn])) an = _ := (mput_ne nas).trans ((mput_ne q2.symm).trans La')
                  have Lb2 : mput (mput M1 qn (.lst n.sd)) sn (.lst (ps.map .ref ++ [.ref qn])) bn = _ := (mput_ne nsb.symm).trans ((mput_ne q4.symm).trans Lb')
                  have Lq2 : Two (fun q (n' : Nx) => mput (mput M1 qn (.lst n.sd)) sn (.lst (ps.map .ref ++ [.ref qn])) q = some (.lst n'.sd)) (ps ++ [qn]) (ns ++ [n]) :=
                    two_snoc (two_mono Lq' fun q n' hq h => (mput_ne (s3 q hq).2.2.1).trans ((mput_ne (q5 q hq)).trans h)) ((mput_ne q3).trans mput_same)
                  have x2 : SubX p m (mput (mput M1 qn (.lst n.sd)) sn (.lst (ps.map .ref ++ [.ref qn]))) := (x'.put nq).put nsn
                  generalize mput (mput M1 qn (.lst n.sd)) sn (.lst (ps.map .ref ++ [.ref qn])) = M2 at Ls2 Lp2 La2 Lb2 Lq2 x2 ⊢
                  have Lbr := rd_L Lb2
                  wtm_at "go"
                  refine ⟨⟨_, Lbr⟩, ?_⟩
                  wtm_at "go"
                  refine ⟨_, Lb2, small1000 (by rw [List.length_map]; omega), ?_⟩
                  refine hK _ _ ⟨l1 ++ [_], ns ++ [n], _, by rw [e]; simp, two_snoc tw ⟨sp, rfl, esp⟩, ?_, rfl, ?_⟩
                  · rw [ho, okNms, okd]; simp [nameOf, hin]
                  · refine ⟨x2.put nbn, ⟨ps ++ [qn], (mput_ne nsb).trans Ls2, two_mono Lq2 fun q n' hq h => ?_, fun q hq => ?_, by simp [s4]⟩, (mput_ne npb).trans Lp2, (mput_ne nab).trans La2, by rw [mput_same]; simp, fun n' hn' => ?_, ?_⟩
                    · rw [mput_ne]; exact h
                      rcases List.mem_append.mp hq with hq | hq
                      · exact (s3 q hq).2.2.2
                      · rw [List.mem_singleton.mp hq]; exact q4
                    · rcases List.mem_append.mp hq with hq | hq
                      · exact s3 q hq
                      · rw [List.mem_singleton.mp hq]; exact ⟨q1, q2, q3, q4⟩
                    · rcases List.mem_append.mp hn' with hn' | hn'
                      · exact L.ok n' hn'
                      · rw [List.mem_singleton.mp hn']; exact hn
                    · rw [List.map_append, List.nodup_append]
                      refine ⟨L.nd, by simp, fun x hx y hy => ?_⟩
                      rw [List.map_singleton, List.mem_singleton] at hy
                      rintro rfl
                      exact hin (hy ▸ hx)
          · wtm_at "go"; exact bad _ Sub.refl rfl
        | _ => wtm_at "go"; exact bad _ Sub.refl rfl
    · rw [decide_eq_false (show ¬ (ds.length : Int) ≤ 3 by omega)]
      wtm_at "go"
      exact qe (by rw [decide_eq_false h3]; rfl) _ SubX.refl
  | _ => wtm_at "go"; exact qe (by simp [okMk]) _ SubX.refl

local macro_rules | `(tactic| wtm_at "dec") => `(tactic| (simp; omega))
local macro_rules | `(tactic| wtm_at "dec") => `(tactic| (simp [isTy, isiB]; done))
local macro_rules | `(tactic| wtm_at "dec") => `(tactic| first | with_reducible rfl | (simp only [isN, ofString_inj, decide_eq_true_eq, decide_eq_false_iff_not, String.reduceEq, reduceCtorEq, not_false_eq_true, decide_true, decide_false, Bool.not_true, Bool.not_false, Bool.not_eq_true', Bool.not_eq_false', Int.reduceLT, Int.reduceLE, Int.reduceEq]; done) | (decide) | (simp; done) | fail)
local macro_rules | `(tactic| wtm_at "one") => `(tactic| first | (with_reducible refine gMust_in ?_) | ((with_reducible apply i_isiK); (focus assumption); (focus decide)))
local macro_rules | `(tactic| wtm_at "kdt") => `(tactic| (repeat' first | with_reducible assumption | with_reducible exact kdA_nil | with_reducible refine kdA_cons ?_ ?_ | with_reducible refine kdA_app ?_ ?_ | with_reducible exact Kd.non | with_reducible exact Kd.int _ | with_reducible exact Kd.bl _ | with_reducible exact kd_tup0 | ((with_reducible refine kd_tup ?_ ?_); (focus rfl)) | (refine Kd.str _ ?_ ?_ <;> decide +kernel)))
local macro_rules | `(tactic| wtm_at "one") => `(tactic| first
  | (with_reducible first | refine i_wsetF ?_ | refine i_wfld ?_ | refine i_wmeth ?_ | refine i_wmethS ?_ | refine i_wmake ?_ | refine i_wmakeS ?_)
  | ((with_reducible apply i_fld); (focus (wtm_at "mem")); (focus assumption); (focus (simp; done)); (focus (wtm_at "mlk")))
  | ((with_reducible apply i_meth); (focus (wtm_at "mem")); (focus (wtm_at "mlk"))))
local macro_rules | `(tactic| wtm_at "mem") => `(tactic| with_reducible first | assumption | exact mput_same | (apply mput_new; assumption; wtm_at "mem") | (apply mput_off; assumption; wtm_at "mem") | (apply mput_off'; assumption; wtm_at "mem") | (apply rd_K; wtm_at "mem") | (apply rd_L; wtm_at "mem") | (apply rd_T; wtm_at "mem") | (apply rd_I; wtm_at "mem") | (apply rd_frz; wtm_at "mem") | fail)
local macro_rules | `(tactic| wtm_at "mlk") => `(tactic| with_reducible first | exact mkF2_names | exact mkF2_steps | exact mkF_last | exact mkF_names | exact mkF_steps | exact mkF_begun | exact mkF2_ns | exact mkF_no (by simp [ofString_inj]) (by simp [ofString_inj]) (by simp [ofString_inj]) (by simp [ofString_inj]))
theorem mkF_no {l b : D} {an sn : Addr} {f : Str} (h1 : f ≠ "last") (h2 : f ≠ "names") (h3 : f ≠ "steps") (h4 : f ≠ "begun") : List.lookup f (mkF l an sn b) = none := by
  unfold mkF; rw [lk_miss h1, lk_miss h2, lk_miss h3, lk_miss h4]; rfl
/-! ### rows of a market, what comes next -/
def rowOf (ns : List Nx) (vs : List Int) : List (Str × Int) := (ns.map (·.w)).zip vs
def rowO (r : List (Str × Int)) : O := .dK (r.map fun p => (.inr p.1, .int p.2))
theorem putD_new {kvs : List (Key × D)} {k : Key} {v : D} (h : ∀ p ∈ kvs, p.1 ≠ k) : putD kvs k v = kvs ++ [(k, v)] := by
  unfold putD
  rw [if_neg]
  intro z
  obtain ⟨p, hp, e⟩ := List.any_eq_true.mp z
  exact h p hp (of_decide_eq_true e)
theorem rowOf_take {ns : List Nx} {vs : List Int} (hn : (ns.map (·.w)).Nodup) (hl : vs.length = ns.length) {k : Nat} {n : Nx} {v : Int} (h1 : ns[k]? = some n) (h2 : vs[k]? = some v) :
    putD (((rowOf ns vs).take k).map fun p => ((.inr p.1 : Key), D.int p.2)) (.inr n.w) (.int v) = ((rowOf ns vs).take (k + 1)).map fun p => ((.inr p.1 : Key), D.int p.2) := by
  have h3 : (rowOf ns vs)[k]? = some (n.w, v) := by
    unfold rowOf
    rw [List.getElem?_zip_eq_some]
    exact ⟨by rw [List.getElem?_map, h1]; rfl, h2⟩
  rw [putD_new, List.take_succ, h3]
  · simp
  · intro p hp e
    obtain ⟨q, hq, rfl⟩ := List.mem_map.mp hp
    obtain ⟨j, hj, e2⟩ := List.mem_iff_getElem.mp hq
    have hj2 : j < k := by rw [List.length_take] at hj; omega
    rw [List.getElem_take] at e2
    have e3 : (rowOf ns vs)[j]? = some q := by rw [List.getElem?_eq_some_iff]; exact ⟨by rw [List.length_take] at hj; omega, e2⟩
    unfold rowOf at e3
    rw [List.getElem?_zip_eq_some] at e3
    have a1 : (ns.map (·.w))[j]? = some n.w := by rw [e3.1]; have e : Sum.inr (α := Int) q.1 = Sum.inr n.w := e; injection e with e; rw [e]
    have a2 : (ns.map (·.w))[k]? = some n.w := by rw [List.getElem?_map, h1]; rfl
    obtain ⟨hk, b2⟩ := List.getElem?_eq_some_iff.mp a2
    obtain ⟨hj', b1⟩ := List.getElem?_eq_some_iff.mp a1
    exact (List.pairwise_iff_getElem.mp hn j k hj' hk hj2) (b1.trans b2.symm)
def gRow (C : Addr) : SpM := fun ds m Q _ => ∃ (p : Addr) (l : Int) (ns : List Nx) (vs : List Int), ds = [.ref p, .tup (vs.map .int)] ∧ MkAt C m p l ns ∧ vs.length = ns.length ∧ newO (rowO (rowOf ns vs)) m Q
abbrev s_Market_row : Stmt := inClass (topS 16) 2
theorem sc_Market_row : FnScope ["self", "values", "found", "k"] ["self", "values"] (defScope s_Market_row) := ⟨rfl, rfl, rfl, by decide +kernel, rfl, by decide +kernel, by decide +kernel⟩
theorem ok_Market_row {k : Nat} (Z : Bl mg) {c_Market : Addr} (O : ObK K c_Market ["last", "names", "steps", "begun"]) {f_Market_row : Addr} {fd_Market_row : FuncData} (F : Fun K "row" "Market.row" s_Market_row f_Market_row fd_Market_row) : FnM P w K mg base CX0 (k + 1) f_Market_row fd_Market_row ["self", "values"] (gRow c_Market) := by
  refine fn_m F sc_Market_row (fun ds m Q E h => ?_) (fun cdv A outer s H ds m Q E E' hr h => ?_)
  · obtain ⟨p, l, ns, vs, rfl, _⟩ := h; rfl
  have nd := sc_Market_row.nd
  obtain ⟨p, l, ns, vs, rfl, M, hl, q⟩ := h
  refine ⟨_, (mss_cons (ms_set (i := 2) nd rfl (.inl rfl) (mx_dnewK))
    (mss_cons (ms_for PassesOwn.never rfl (mi_range1 Z.b_range (ma_cons (mx_callB mc_len1 Z.b_len (ma_cons (mx_fld (mv 0) rfl) ma_nil)) ma_nil)) (mg_name (i := 3) nd rfl (.inl rfl)) (mss_one (ms_dput (hu1 hr) (mv 2) (mx_ix (mi_sub hr) (mx_fld (mv 0) rfl) (mv 3)) (mx_ix (mi_sub hr) (mv 1) (mv 3)))))
    (mss_one (ms_ret (mv 2))))), ?_⟩
  obtain ⟨⟨an, sn, ps, ep, ea, es, tw⟩, l0, l1, n3, ok, ndp⟩ := M
  have ear := rd_L ea
  wtm_at "go"
  intro fa hfa
  wtm_at "go"
  refine ⟨by simp <;> omega, by simp <;> omega, ?_⟩
  rw [show (((ns.map fun n => D.str n.w).length : Nat) : Int).toNat = ns.length by simp]
  refine forC_ind (fun rest ρ M => ∃ (j : Nat) (e3 : Option D), j ≤ ns.length ∧ rest = (rangeD 0 ns.length).drop j ∧ ρ = [some (.ref p), some (.tup (vs.map .int)), some (.ref fa), e3] ∧ M = mput m fa (rowO ((rowOf ns vs).take j))) ⟨0, none, Nat.zero_le _, rfl, rfl, rfl⟩ ?_ ?_
  · rintro ρ M ⟨j, e3, hj, er, rfl, rfl⟩
    obtain rfl := rangeD_nil er hj
    refine ⟨trivial, ?_⟩
    wtm_at "go"
    rw [List.take_of_length_le (by unfold rowOf; rw [List.length_zip, List.length_map]; omega)]
    exact RtM.mk (q _ hfa)
  · rintro d rest ρ M K2 hK ⟨j, e3, hj, er, rfl, rfl⟩
    obtain ⟨rfl, er, hj⟩ := rangeD_drop er
    refine ⟨trivial, ?_⟩
    have h1 : ns[j]? = some ns[j] := by simp [hj]
    have h2 : vs[j]? = some (vs[j]'(by omega)) := by simp
    have ear2 : rdM (mput m fa (rowO ((rowOf ns vs).take j))) an = _ := rdM_new hfa ear
    wtm_at "go"
    refine i_subT (atI_nat (by rw [List.getElem?_map, h2]; rfl)) ?_
    wtm_at "go"
    refine i_subL ear2 (atI_nat (by rw [List.getElem?_map, h1]; rfl)) ?_
    wtm_at "go"
    refine i_putK mput_same ?_ ?_
    · refine small1000 ?_
      rw [List.length_map, List.length_take]
      omega
    · rw [rowOf_take ndp hl h1 h2, mput_mput]
      exact hK _ _ ⟨j + 1, _, hj, er, rfl, rfl⟩
def nextStep (st : List (Int × Int)) (v : Int) (acc : List (List Int × Int)) : List (List Int × Int) := acc.flatMap fun t => st.map fun s => (t.1 ++ [v + s.1], t.2 * s.2)
theorem nextStep_len {st : List (Int × Int)} {v : Int} : ∀ {acc : List (List Int × Int)}, (nextStep st v acc).length = acc.length * st.length
  | [] => by simp [nextStep]
  | t :: acc => by
    have := nextStep_len (st := st) (v := v) (acc := acc)
    unfold nextStep at this ⊢
    rw [List.flatMap_cons, List.length_append, this, List.length_map, List.length_cons, Nat.add_mul, Nat.one_mul, Nat.add_comm]
theorem nextStep_snoc {st : List (Int × Int)} {v : Int} {acc : List (List Int × Int)} {t : List Int × Int} : nextStep st v (acc ++ [t]) = nextStep st v acc ++ st.map fun s => (t.1 ++ [v + s.1], t.2 * s.2) := by
  unfold nextStep; rw [List.flatMap_append]; simp
/-- all that may come next: told the names from the left -/
def nextsF : List (Nx × Int) → List (List Int × Int) → List (List Int × Int)
  | [], acc => acc
  | p :: r, acc => nextsF r (nextStep p.1.st p.2 acc)
def nextsL (ns : List Nx) (vs : List Int) : List (List Int × Int) := nextsF (ns.zip vs) [([], 1)]
def pwD (t : List Int × Int) : D := .tup [.tup (t.1.map .int), .int t.2]
def gNexts (C : Addr) : SpM := fun ds m Q _ => ∃ (p : Addr) (l : Int) (ns : List Nx) (vs : List Int), ds = [.ref p, .tup (vs.map .int)] ∧ MkAt C m p l ns ∧ vs.length = ns.length ∧ newO (.lst ((nextsL ns vs).map pwD)) m Q
theorem nextsF_snoc : ∀ {r : List (Nx × Int)} {p : Nx × Int} {acc : List (List Int × Int)}, nextsF (r ++ [p]) acc = nextStep p.1.st p.2 (nextsF r acc)
  | [], _, _ => rfl
  | _ :: r, p, acc => nextsF_snoc (r := r)
theorem nextsF_len : ∀ {r : List (Nx × Int)} {acc : List (List Int × Int)}, (∀ p ∈ r, p.1.st.length ≤ 4) → (nextsF r acc).length ≤ acc.length * 4 ^ r.length
  | [], acc, _ => by simp [nextsF]
  | p :: r, acc, h => by
    have h1 := nextsF_len (r := r) (acc := nextStep p.1.st p.2 acc) fun q hq => h q (.tail _ hq)
    have h2 : (nextStep p.1.st p.2 acc).length = acc.length * p.1.st.length := by
      exact nextStep_len
    have h3 := h p (.head _)
    rw [List.length_cons, Nat.pow_succ]
    refine Nat.le_trans h1 ?_
    rw [h2]
    calc acc.length * p.1.st.length * 4 ^ r.length ≤ acc.length * 4 * 4 ^ r.length := Nat.mul_le_mul_right _ (Nat.mul_le_mul_left _ h3)
      _ = acc.length * (4 ^ r.length * 4) := by rw [Nat.mul_assoc, Nat.mul_comm 4]
theorem nextsF_mem : ∀ {r : List (Nx × Int)} {acc : List (List Int × Int)} {a : Nat}, (∀ t ∈ acc, t.1.length = a) → ∀ t ∈ nextsF r acc, t.1.length = a + r.length
  | [], _, _, h, t, ht => h t ht
  | p :: r, acc, a, h, t, ht => by
    have := nextsF_mem (r := r) (acc := nextStep p.1.st p.2 acc) (a := a + 1) (fun u hu => by
      unfold nextStep at hu
      obtain ⟨x, hx, hu⟩ := List.mem_flatMap.mp hu
      obtain ⟨y, hy, rfl⟩ := List.mem_map.mp hu
      simp [h x hx]) t ht
    rw [this, List.length_cons]; omega
theorem zip_take {α β : Type} {as : List α} {bs : List β} {j : Nat} {a : α} {b : β} (h1 : as[j]? = some a) (h2 : bs[j]? = some b) : (as.zip bs).take (j + 1) = (as.zip bs).take j ++ [(a, b)] := by
  rw [List.take_succ]
  have : (as.zip bs)[j]? = some (a, b) := by rw [List.getElem?_zip_eq_some]; exact ⟨h1, h2⟩
  rw [this]; rfl
theorem sub_one {m M : Mem} {a : Addr} {o : O} (h : Sub m M) (e : M a = some o) : Sub (mput m a o) M := fun b u z => by
  by_cases c : b = a
  · subst c; rw [mput_same] at z; cases z; exact e
  · rw [mput_ne c] at z; exact h b u z
abbrev s_Market_nexts : Stmt := inClass (topS 16) 3
theorem sc_Market_nexts : FnScope ["self", "values", "found", "k", "longer", "told", "weight", "by", "more"] ["self", "values"] (defScope s_Market_nexts) := ⟨rfl, rfl, rfl, by decide +kernel, rfl, by decide +kernel, by decide +kernel⟩
theorem ok_Market_nexts {k : Nat} (Z : Bl mg) {c_Market : Addr} (O : ObK K c_Market ["last", "names", "steps", "begun"]) {f_Market_nexts : Addr} {fd_Market_nexts : FuncData} (F : Fun K "nexts" "Market.nexts" s_Market_nexts f_Market_nexts fd_Market_nexts) : FnM P w K mg base CX0 (k + 1) f_Market_nexts fd_Market_nexts ["self", "values"] (gNexts c_Market) := by
  refine fn_m F sc_Market_nexts (fun ds m Q E h => ?_) (fun cdv A outer s H ds m Q E E' hr h => ?_)
  · obtain ⟨p, l, ns, vs, rfl, _⟩ := h; rfl
  have nd := sc_Market_nexts.nd
  obtain ⟨p, l, ns, vs, rfl, M, hl, q⟩ := h
  refine ⟨_, (mss_cons (ms_set (i := 2) nd rfl (.inl rfl) (mx_lst (ma_cons (mx_tup (ma_cons (mx_tup ma_nil) (ma_cons mx_int ma_nil))) ma_nil)))
    (mss_cons (ms_for PassesOwn.never rfl (mi_range1 Z.b_range (ma_cons (mx_callB mc_len1 Z.b_len (ma_cons (mx_fld (mv 0) rfl) ma_nil)) ma_nil)) (mg_name (i := 3) nd rfl (.inl rfl)) (mss_cons (ms_set (i := 4) nd rfl (.inl rfl) (mx_lst ma_nil))
    (mss_cons (ms_for PassesOwn.never rfl (mi_list (mv 2)) (mg_tup rfl (mgs_cons (mg_name (i := 5) nd rfl (.inl rfl)) (mgs_cons (mg_name (i := 6) nd rfl (.inl rfl)) mgs_nil))) (mss_one (ms_for PassesOwn.never rfl (mi_list (mx_ix (mi_sub hr) (mx_fld (mv 0) rfl) (mv 3))) (mg_tup rfl (mgs_cons (mg_name (i := 7) nd rfl (.inl rfl)) (mgs_cons (mg_name (i := 8) nd rfl (.inl rfl)) mgs_nil))) (mss_one (ms_expr (mx_append (mv 4) (mx_tup (ma_cons (mx_op mo_plus (mv 5) (mx_tup (ma_cons (mx_op mo_plus (mx_ix (mi_sub hr) (mv 1) (mv 3)) (mv 7)) ma_nil))) (ma_cons (mx_op mo_times (mv 6) (mv 8)) ma_nil)))))))))
    (mss_one (ms_set (i := 2) nd rfl (.inl rfl) (mv 4))))))
    (mss_one (ms_ret (mv 2))))), ?_⟩
  obtain ⟨⟨an, sn, ps, ep, ea, es, tw⟩, l0, l1, n3, ok, ndp⟩ := M
  have ear := rd_L ea
  wtm_at "go"
  intro fa hfa
  wtm_at "go"
  refine ⟨by simp <;> omega, by simp <;> omega, ?_⟩
  rw [show (((ns.map fun n => D.str n.w).length : Nat) : Int).toNat = ns.length by simp]
  refine forC_ind (fun rest ρ M => ∃ (j : Nat) (fa : Addr) (e3 e4 e5 e6 e7 e8 : Option D), j ≤ ns.length ∧ rest = (rangeD 0 ns.length).drop j ∧ ρ = [some (.ref p), some (.tup (vs.map .int)), some (.ref fa), e3, e4, e5, e6, e7, e8] ∧ Sub m M ∧ m fa = none ∧ M fa = some (.lst ((nextsF ((ns.zip vs).take j) [([], 1)]).map pwD))) ⟨0, fa, none, none, none, none, none, none, Nat.zero_le _, rfl, rfl, Sub.refl.new hfa, hfa, mput_same⟩ ?_ ?_
  · rintro ρ M ⟨j, fa, e3, e4, e5, e6, e7, e8, hj, er, rfl, sM, n0, eM⟩
    obtain rfl := rangeD_nil er hj
    refine ⟨trivial, ?_⟩
    wtm_at "go"
    rw [List.take_of_length_le (by rw [List.length_zip]; omega)] at eM
    exact RtM.sub (sub_one sM eM) (q _ n0)
  · rintro d rest ρ M K2 hK ⟨j, fa, e3, e4, e5, e6, e7, e8, hj, er, rfl, sM, n0, eM⟩
    obtain ⟨rfl, er, hj⟩ := rangeD_drop er
    refine ⟨trivial, ?_⟩
    have h1 : ns[j]? = some ns[j] := by simp [hj]
    have h2 : vs[j]? = some (vs[j]'(by omega)) := by simp
    generalize ns[j] = nj at h1
    generalize (vs[j]'(by omega)) = vj at h2
    obtain ⟨qa, hq1, hq2⟩ := two_get tw h1
    have okj : nj.Ok := ok nj (List.mem_of_getElem? h1)
    have hz := zip_take h1 h2
    have hlen := nextsF_len (r := (ns.zip vs).take j) (acc := [([], 1)]) fun q hq => (ok q.1 (List.of_mem_zip (List.mem_of_mem_take hq)).1).s4
    have hmem := nextsF_mem (r := (ns.zip vs).take j) (acc := [([], 1)]) (a := 0) (by simp)
    have hj4 : ((ns.zip vs).take j).length ≤ 2 := by rw [List.length_take]; omega
    generalize hacc : nextsF ((ns.zip vs).take j) [([], 1)] = acc at eM hlen hmem
    have hlen : acc.length ≤ 16 := Nat.le_trans hlen (by
      have : 4 ^ ((ns.zip vs).take j).length ≤ 4 ^ 2 := Nat.pow_le_pow_right (by decide) hj4
      simpa using this)
    have hmem : ∀ t ∈ acc, t.1.length ≤ 2 := fun t ht => by rw [hmem t ht]; omega
    wtm_at "go"
    intro la hla
    have nla : m la = none := by
      cases z : m la with
      | none => rfl
      | some o => rw [sM _ _ z] at hla; cases hla
    have nfl : fa ≠ la := by rintro rfl; rw [eM] at hla; cases hla
    have eMr := rd_L eM
    have sn' : ∀ X, rdM (mput M la X) sn = some (.lst (ps.map .ref)) := fun X => rdM_new hla (rd_L (sM _ _ es))
    have sq' : ∀ X, rdM (mput M la X) qa = some (.lst nj.sd) := fun X => rdM_new hla (rd_L (sM _ _ hq2))
    have sf' : ∀ X, rdM (mput M la X) fa = some (.lst (acc.map pwD)) := fun X => rdM_new hla eMr
    have Mp := sM _ _ ep
    wtm_at "go"
    refine ⟨_, sf' _, ?_⟩
    refine forC_ind (fun rest ρ M' => ∃ (i : Nat) (e5 e6 e7 e8 : Option D), i ≤ acc.length ∧ rest = (acc.map pwD).drop i ∧ ρ = [some (.ref p), some (.tup (vs.map .int)), some (.ref fa), some (.int j), some (.ref la), e5, e6, e7, e8] ∧ M' = mput M la (.lst ((nextStep nj.st vj (acc.take i)).map pwD))) ⟨0, _, _, _, _, Nat.zero_le _, rfl, rfl, rfl⟩ ?_ ?_
    · rintro ρ M' ⟨i, e5, e6, e7, e8, hi, er2, rfl, rfl⟩
      have hi2 := list_nil er2 (by rw [List.length_map]; exact hi)
      rw [List.length_map] at hi2
      subst hi2
      refine ⟨sf' _, ?_⟩
      wtm_at "go"
      refine hK _ _ ⟨j + 1, la, _, _, _, _, _, _, hj, er, rfl, sM.new hla, nla, ?_⟩
      rw [mput_same, hz, nextsF_snoc, hacc, List.take_length]
    · rintro d2 rest2 ρ M' K3 hK3 ⟨i, e5, e6, e7, e8, hi, er2, rfl, rfl⟩
      obtain ⟨hd, er2', hi⟩ := list_drop er2
      rw [List.length_map] at hi
      rw [List.getElem?_map] at hd
      obtain ⟨t, ht, rfl⟩ := Option.map_eq_some_iff.mp hd
      refine ⟨sf' _, ?_⟩
      have htl := hmem t (List.mem_of_getElem? ht)
      rw [show pwD t = .tup [.tup (t.1.map .int), .int t.2] from rfl]
      wtm_at "go"
      refine i_subL (sn' _) (atI_nat (by rw [List.getElem?_map, hq1]; rfl)) ?_
      wtm_at "go"
      refine ⟨_, sq' _, ?_⟩
      refine forC_ind (fun rest ρ M' => ∃ (h : Nat) (e7 e8 : Option D), h ≤ nj.st.length ∧ rest = nj.sd.drop h ∧ ρ = [some (.ref p), some (.tup (vs.map .int)), some (.ref fa), some (.int j), some (.ref la), some (.tup (t.1.map .int)), some (.int t.2), e7, e8] ∧ M' = mput M la (.lst (((nextStep nj.st vj (acc.take i)) ++ ((nj.st.take h).map fun s => (t.1 ++ [vj + s.1], t.2 * s.2))).map pwD))) ⟨0, _, _, Nat.zero_le _, rfl, rfl, by simp⟩ ?_ ?_
      · rintro ρ M' ⟨h, e7, e8, hh, er3, rfl, rfl⟩
        have hh2 := list_nil er3 (by unfold Nx.sd; rw [List.length_map]; exact hh)
        unfold Nx.sd at hh2
        rw [List.length_map] at hh2
        subst hh2
        refine ⟨sq' _, ?_⟩
        refine hK3 _ _ ⟨i + 1, _, _, _, _, hi, er2', rfl, ?_⟩
        rw [List.take_length, List.take_succ, ht, show (some t).toList = [t] from rfl, nextStep_snoc]
      · rintro d3 rest3 ρ M' K4 hK4 ⟨h, e7, e8, hh, er3, rfl, rfl⟩
        obtain ⟨hd, er3', hh⟩ := list_drop er3
        unfold Nx.sd at hd hh
        rw [List.length_map] at hh
        rw [List.getElem?_map] at hd
        obtain ⟨u, hu, rfl⟩ := Option.map_eq_some_iff.mp hd
        have hub := okj.sb u (List.mem_of_getElem? hu)
        refine ⟨sq' _, ?_⟩
        wtm_at "go"
        refine ⟨⟨_, rd_L mput_same⟩, ?_⟩
        wtm_at "go"
        refine i_subT (atI_nat (by rw [List.getElem?_map, h2]; rfl)) ?_
        wtm_at "go"
        refine i_plusT (sl (by simp; omega)) ?_
        wtm_at "go"
        have hl1 : (nextStep nj.st vj (acc.take i)).length ≤ 64 := by
          rw [nextStep_len, List.length_take]
          calc min i acc.length * nj.st.length ≤ 16 * 4 := Nat.mul_le_mul (by omega) okj.s4
            _ = 64 := rfl
        have hl2 := okj.s4
        refine ⟨_, mput_same, small1000 (by rw [List.length_map, List.length_append, List.length_map, List.length_take]; omega), ?_⟩
        refine hK4 _ _ ⟨h + 1, _, _, hh, er3', rfl, ?_⟩
        rw [mput_mput, List.take_succ, hu]
        simp [pwD]

local macro_rules | `(tactic| wtm_at "dec") => `(tactic| (simp; omega))
local macro_rules | `(tactic| wtm_at "dec") => `(tactic| (simp [isTy, isiB]; done))
local macro_rules | `(tactic| wtm_at "dec") => `(tactic| first | with_reducible rfl | (simp only [isN, ofString_inj, decide_eq_true_eq, decide_eq_false_iff_not, String.reduceEq, reduceCtorEq, not_false_eq_true, decide_true, decide_false, Bool.not_true, Bool.not_false, Bool.not_eq_true', Bool.not_eq_false', Int.reduceLT, Int.reduceLE, Int.reduceEq]; done) | (decide) | (simp; done) | fail)
local macro_rules | `(tactic| wtm_at "one") => `(tactic| first | (with_reducible refine gMust_in ?_) | ((with_reducible apply i_isiK); (focus assumption); (focus decide)))
local macro_rules | `(tactic| wtm_at "kdt") => `(tactic| (repeat' first | with_reducible assumption | with_reducible exact kdA_nil | with_reducible refine kdA_cons ?_ ?_ | with_reducible refine kdA_app ?_ ?_ | with_reducible exact Kd.non | with_reducible exact Kd.int _ | with_reducible exact Kd.bl _ | with_reducible exact kd_tup0 | ((with_reducible refine kd_tup ?_ ?_); (focus rfl)) | (refine Kd.str _ ?_ ?_ <;> decide +kernel)))
local macro_rules | `(tactic| wtm_at "one") => `(tactic| first
  | (with_reducible first | refine i_wsetF ?_ | refine i_wfld ?_ | refine i_wmeth ?_ | refine i_wmethS ?_ | refine i_wmake ?_ | refine i_wmakeS ?_)
  | ((with_reducible apply i_fld); (focus (wtm_at "mem")); (focus assumption); (focus (simp; done)); (focus (wtm_at "mlk")))
  | ((with_reducible apply i_meth); (focus (wtm_at "mem")); (focus (wtm_at "mlk"))))
local macro_rules | `(tactic| wtm_at "mem") => `(tactic| with_reducible first | assumption | exact mput_same | (apply mput_new; assumption; wtm_at "mem") | (apply mput_off; assumption; wtm_at "mem") | (apply mput_off'; assumption; wtm_at "mem") | (apply rd_K; wtm_at "mem") | (apply rd_L; wtm_at "mem") | (apply rd_T; wtm_at "mem") | (apply rd_I; wtm_at "mem") | (apply rd_frz; wtm_at "mem") | fail)
local macro_rules | `(tactic| wtm_at "mlk") => `(tactic| with_reducible first | exact mkF2_names | exact mkF2_steps | exact mkF_last | exact mkF_names | exact mkF_steps | exact mkF_begun | exact mkF2_ns | exact mkF_no (by simp [ofString_inj]) (by simp [ofString_inj]) (by simp [ofString_inj]) (by simp [ofString_inj]))
/-! ### the rows of a path -/
abbrev vsD (vs : List Int) : D := .tup (vs.map .int)
/-- a list of new rows: its cells all new in m, no two alike -/
structure RowsN (m M : Mem) (a : Addr) (rs : List (List (Str × Int))) : Prop where
  s : Sub m M
  n : m a = none
  e : ∃ qs : List Addr, M a = some (.lst (qs.map .ref)) ∧ Two (fun q r => m q = none ∧ M q = some (rowO r)) qs rs ∧ (a :: qs).Nodup
theorem MkAt.sub {C : Addr} {m M : Mem} {p : Addr} {l : Int} {ns : List Nx} (h : MkAt C m p l ns) (s : Sub m M) : MkAt C M p l ns := by
  obtain ⟨⟨an, sn, ps, ep, ea, es, tw⟩, l0, l1, n3, ok, nd⟩ := h
  exact ⟨⟨an, sn, ps, s _ _ ep, s _ _ ea, s _ _ es, two_mono tw fun _ _ _ e => s _ _ e⟩, l0, l1, n3, ok, nd⟩
def gRows (C : Addr) : SpM := fun ds m Q _ => ∃ (p : Addr) (l : Int) (ns : List Nx) (path : List (List Int)), ds = [.ref p, .tup (path.map vsD)] ∧ MkAt C m p l ns ∧ (∀ vs ∈ path, vs.length = ns.length) ∧ path.length ≤ 1000 ∧ ∀ M a, RowsN m M a (path.map (rowOf ns)) → Q (.ref a) M
abbrev s_Market_rows : Stmt := inClass (topS 16) 5
theorem sc_Market_rows : FnScope ["self", "path", "values"] ["self", "path"] (defScope s_Market_rows) := ⟨rfl, rfl, rfl, by decide +kernel, rfl, by decide +kernel, by decide +kernel⟩
theorem ok_Market_rows {k : Nat} (Z : Bl mg) {c_Market : Addr} (O : ObK K c_Market ["last", "names", "steps", "begun"]) {f_Market_row : Addr} {fd_Market_row : FuncData} (D_Market_row : Dm K c_Market "row" f_Market_row fd_Market_row ["self", "values"]) (G_Market_row : FnM P w K mg base CX0 (k) f_Market_row fd_Market_row ["self", "values"] (gRow c_Market)) {f_Market_rows : Addr} {fd_Market_rows : FuncData} (F : Fun K "rows" "Market.rows" s_Market_rows f_Market_rows fd_Market_rows) : FnM P w K mg base CX0 (k + 1) f_Market_rows fd_Market_rows ["self", "path"] (gRows c_Market) := by
  refine fn_m F sc_Market_rows (fun ds m Q E h => ?_) (fun cdv A outer s H ds m Q E E' hr h => ?_)
  · obtain ⟨p, l, ns, path, rfl, _⟩ := h; rfl
  have nd := sc_Market_rows.nd
  obtain ⟨p, l, ns, path, rfl, M, hl, hp, q⟩ := h
  refine ⟨_, (mss_one (ms_ret (mx_lc (own := [("values", 2)]) rfl nd (mi_tup (mv 1)) (blkOk_by (by show blkC ["self", "path", "values"] (defScope s_Market_rows) _ _ = true; decide +kernel)) (fun _ _ _ _ _ => (pg_name (i := 2) nd rfl (Or.inl rfl))) (gok_name (i := 2) (by decide)) (fun _ _ _ _ _ => mts_nil) (fun _ _ _ _ _ => (mx_meth (Em := noX) (mv 0) D_Market_row.c D_Market_row.m G_Market_row hr D_Market_row.b pass0M (ma_cons (mv 2) ma_nil)))))), ?_⟩
  wtm_at "go"
  refine lcC_ind (fun rest acc M' => ∃ (qs : List Addr) (l1 l2 : List (List Int)), path = l1 ++ l2 ∧ rest = l2.map vsD ∧ acc = qs.map .ref ∧ Sub m M' ∧ Two (fun q r => m q = none ∧ M' q = some (rowO r)) qs (l1.map (rowOf ns)) ∧ qs.Nodup) ⟨[], [], path, rfl, rfl, rfl, Sub.refl, .nil, .nil⟩ ?_ ?_
  · rintro acc M' ⟨qs, l1, l2, e1, e2, rfl, s, tw, ndq⟩
    have : l2 = [] := by simpa using e2.symm
    subst this
    rw [List.append_nil] at e1
    subst e1
    refine ⟨trivial, ?_⟩
    intro a ha
    have na : m a = none := by
      cases z : m a with
      | none => rfl
      | some o => rw [s _ _ z] at ha; cases ha
    have hne : ∀ x ∈ qs, x ≠ a := fun x hx z => by
      obtain ⟨r, _, _, e⟩ := two_mem tw hx
      rw [z] at e; rw [e] at ha; cases ha
    refine RtM.mk (q _ _ ⟨s.new ha, na, qs, mput_same, ?_, ?_⟩)
    · refine two_mono tw fun x r hx e => ⟨e.1, ?_⟩
      rw [mput_ne (hne x hx)]; exact e.2
    · exact List.nodup_cons.mpr ⟨fun z => hne a z rfl, ndq⟩
  · rintro d rest acc M' K hK ⟨qs, l1, l2, e1, e2, rfl, s, tw, ndq⟩
    cases l2 with
    | nil => cases e2
    | cons vs l2 =>
      rw [List.map_cons] at e2
      cases e2
      have hv : vs.length = ns.length := hl vs (by rw [e1]; simp)
      have lq : qs.length = l1.length := by rw [tw.length]; simp
      have l1l : l1.length < 1000 := by have := congrArg List.length e1; rw [List.length_append, List.length_cons] at this; omega
      refine ⟨trivial, rfl, ?_⟩
      show wMeth c_Market "row" (gRow c_Market) noX (wVar 0) (fun ρ m Q => wVar 2 ρ m fun d m1 => Q [d] m1) [some (.ref p), some (.tup (path.map vsD)), some (vsD vs)] M' fun y m4 => (qs.map D.ref).length < sizeLine ∧ K (qs.map D.ref ++ [y]) m4
      have Ms := M.sub s
      obtain ⟨an, sn, ps, ep, ea, es, tw2⟩ := Ms.e
      wtm_at "go"
      refine ⟨p, l, ns, vs, rfl, Ms, hv, ?_⟩
      intro a ha
      have na : m a = none := by
        cases z : m a with
        | none => rfl
        | some o => rw [s _ _ z] at ha; cases ha
      have hne : ∀ x ∈ qs, x ≠ a := fun x hx z => by
        obtain ⟨r, _, _, e⟩ := two_mem tw hx
        rw [z] at e; rw [e] at ha; cases ha
      refine ⟨by simp; exact Nat.lt_of_lt_of_le (by omega) (show 1000 ≤ sizeLine by decide), hK _ _ ⟨qs ++ [a], l1 ++ [vs], l2, by simp [e1], rfl, by simp, s.new ha, ?_, ?_⟩⟩
      · rw [List.map_append]
        refine two_snoc (two_mono tw fun x r hx e => ⟨e.1, ?_⟩) ⟨na, mput_same⟩
        rw [mput_ne (hne x hx)]; exact e.2
      · rw [List.nodup_append]
        exact ⟨ndq, by simp, fun x hx y hy => by rw [List.mem_singleton] at hy; rw [hy]; exact hne x hx⟩

local macro_rules | `(tactic| wtm_at "dec") => `(tactic| (simp; omega))
local macro_rules | `(tactic| wtm_at "dec") => `(tactic| (simp [isTy, isiB]; done))
local macro_rules | `(tactic| wtm_at "dec") => `(tactic| first | with_reducible rfl | (simp only [isN, ofString_inj, decide_eq_true_eq, decide_eq_false_iff_not, String.reduceEq, reduceCtorEq, not_false_eq_true, decide_true, decide_false, Bool.not_true, Bool.not_false, Bool.not_eq_true', Bool.not_eq_false', Int.reduceLT, Int.reduceLE, Int.reduceEq]; done) | (decide) | (simp; done) | fail)
local macro_rules | `(tactic| wtm_at "one") => `(tactic| first | (with_reducible refine gMust_in ?_) | ((with_reducible apply i_isiK); (focus assumption); (focus decide)))
local macro_rules | `(tactic| wtm_at "kdt") => `(tactic| (repeat' first | with_reducible assumption | with_reducible exact kdA_nil | with_reducible refine kdA_cons ?_ ?_ | with_reducible refine kdA_app ?_ ?_ | with_reducible exact Kd.non | with_reducible exact Kd.int _ | with_reducible exact Kd.bl _ | with_reducible exact kd_tup0 | ((with_reducible refine kd_tup ?_ ?_); (focus rfl)) | (refine Kd.str _ ?_ ?_ <;> decide +kernel)))
local macro_rules | `(tactic| wtm_at "one") => `(tactic| first
  | (with_reducible first | refine i_wsetF ?_ | refine i_wfld ?_ | refine i_wmeth ?_ | refine i_wmethS ?_ | refine i_wmake ?_ | refine i_wmakeS ?_)
  | ((with_reducible apply i_fld); (focus (wtm_at "mem")); (focus assumption); (focus (simp; done)); (focus (wtm_at "mlk")))
  | ((with_reducible apply i_meth); (focus (wtm_at "mem")); (focus (wtm_at "mlk"))))
local macro_rules | `(tactic| wtm_at "mem") => `(tactic| with_reducible first | assumption | exact mput_same | (apply mput_new; assumption; wtm_at "mem") | (apply mput_off; assumption; wtm_at "mem") | (apply mput_off'; assumption; wtm_at "mem") | (apply rd_K; wtm_at "mem") | (apply rd_L; wtm_at "mem") | (apply rd_T; wtm_at "mem") | (apply rd_I; wtm_at "mem") | (apply rd_frz; wtm_at "mem") | fail)
local macro_rules | `(tactic| wtm_at "mlk") => `(tactic| with_reducible first | exact mkF2_names | exact mkF2_steps | exact mkF_last | exact mkF_names | exact mkF_steps | exact mkF_begun | exact mkF2_ns | exact mkF_no (by simp [ofString_inj]) (by simp [ofString_inj]) (by simp [ofString_inj]) (by simp [ofString_inj]))
/-! ### all futures -/
abbrev Fut := List (List Int) × Int
def futD (t : Fut) : D := .tup [.tup (t.1.map vsD), .int t.2]
def futOne (ns : List Nx) (t : Fut) : List Fut := (nextsL ns (t.1.getLast?.getD [])).map fun s => (t.1 ++ [s.1], t.2 * s.2)
def futStep (ns : List Nx) (acc : List Fut) : List Fut := acc.flatMap (futOne ns)
def futL (ns : List Nx) : Nat → List Fut → Option (List Fut)
  | 0, acc => some acc
  | k + 1, acc => if (futStep ns acc).length > 2000 then none else futL ns k (futStep ns acc)
def futs (ns : List Nx) (l : Int) : Option (List Fut) := futL ns l.toNat [([ns.map (·.b)], 1)]
/-- the cells of one future -/
structure FutC (m M : Mem) (c : Addr × List Addr) (f : List (List (Str × Int)) × Int) : Prop where
  n : m c.1 = none
  e : M c.1 = some (.lst (c.2.map .ref))
  t : Two (fun q r => m q = none ∧ M q = some (rowO r)) c.2 f.1
theorem futStep_snoc {ns : List Nx} {acc : List Fut} {t : Fut} : futStep ns (acc ++ [t]) = futStep ns acc ++ futOne ns t := by
  unfold futStep; rw [List.flatMap_append]; simp
theorem futOne_last {ns : List Nx} {l1 : List (List Int)} {vs : List Int} {wt : Int} : futOne ns (l1 ++ [vs], wt) = (nextsL ns vs).map fun s => (l1 ++ [vs] ++ [s.1], wt * s.2) := by
  unfold futOne; simp
theorem futStep_len {ns : List Nx} {n : Nat} : ∀ {acc : List Fut}, (∀ t ∈ acc, (nextsL ns (t.1.getLast?.getD [])).length ≤ n) → (futStep ns acc).length ≤ acc.length * n
  | [], _ => by simp [futStep]
  | t :: acc, h => by
    have h1 := futStep_len (acc := acc) fun u hu => h u (.tail _ hu)
    have h2 := h t (.head _)
    unfold futStep at h1 ⊢
    rw [List.flatMap_cons, List.length_append, List.length_cons, Nat.add_mul, Nat.one_mul]
    unfold futOne at h1 ⊢
    rw [List.length_map]
    omega
theorem nextsL_len {ns : List Nx} {vs : List Int} (h3 : ns.length ≤ 3) (ok : ∀ n ∈ ns, n.Ok) : (nextsL ns vs).length ≤ 64 := by
  have h1 := nextsF_len (r := ns.zip vs) (acc := [([], 1)]) fun q hq => (ok q.1 (List.of_mem_zip hq).1).s4
  refine Nat.le_trans h1 ?_
  have : (ns.zip vs).length ≤ 3 := by rw [List.length_zip]; omega
  have := Nat.pow_le_pow_right (n := 4) (by decide) this
  simpa using this
theorem nextsF_w : ∀ {r : List (Nx × Int)} {acc : List (List Int × Int)} {B : Nat}, (∀ p ∈ r, p.1.Ok) → (∀ t ∈ acc, 1 ≤ t.2 ∧ t.2 ≤ (B : Int)) → ∀ t ∈ nextsF r acc, 1 ≤ t.2 ∧ t.2 ≤ ((B * 999 ^ r.length : Nat) : Int)
  | [], _, _, _, h, t, ht => by simpa using h t ht
  | p :: r, acc, B, hp, h, t, ht => by
    have ok := hp p (.head _)
    have := nextsF_w (r := r) (acc := nextStep p.1.st p.2 acc) (B := B * 999) (fun q hq => hp q (.tail _ hq)) (fun u hu => by
      unfold nextStep at hu
      obtain ⟨x, hx, hu⟩ := List.mem_flatMap.mp hu
      obtain ⟨y, hy, rfl⟩ := List.mem_map.mp hu
      obtain ⟨h1, h2⟩ := h x hx
      obtain ⟨-, h3, h4⟩ := ok.sb y hy
      refine ⟨by show 1 ≤ x.2 * y.2; have := Int.mul_le_mul h1 h3 (by omega) (by omega); simpa using this, ?_⟩
      show x.2 * y.2 ≤ _
      have := Int.mul_le_mul h2 h4 (by omega) (by omega)
      push_cast
      exact this) t ht
    rw [List.length_cons, Nat.pow_succ, Nat.mul_comm (999 ^ r.length), ← Nat.mul_assoc]
    exact this
theorem nextsL_w {ns : List Nx} {vs : List Int} (h3 : ns.length ≤ 3) (ok : ∀ n ∈ ns, n.Ok) : ∀ t ∈ nextsL ns vs, 1 ≤ t.2 ∧ t.2 ≤ 997002999 := fun t ht => by
  obtain ⟨a, b⟩ := nextsF_w (r := ns.zip vs) (acc := [([], 1)]) (B := 1) (fun q hq => ok q.1 (List.of_mem_zip hq).1) (by simp) t ht
  refine ⟨a, Int.le_trans b ?_⟩
  have h : (ns.zip vs).length ≤ 3 := by rw [List.length_zip]; omega
  have := Nat.pow_le_pow_right (n := 999) (by decide) h
  have e : (999 : Nat) ^ 3 = 997002999 := by decide
  rw [e] at this
  omega
theorem nextsL_mem {ns : List Nx} {vs : List Int} (h : vs.length = ns.length) : ∀ t ∈ nextsL ns vs, t.1.length = ns.length := fun t ht => by
  have := nextsF_mem (r := ns.zip vs) (acc := [([], 1)]) (a := 0) (by simp) t ht
  rw [this, List.length_zip]; omega
/-- a list of new futures: the cells of all rows new in m, no two alike -/
structure FutsN (m M : Mem) (a : Addr) (fs : List (List (List (Str × Int)) × Int)) : Prop where
  s : Sub m M
  n : m a = none
  e : ∃ cs : List (Addr × List Addr), M a = some (.lst ((cs.zip fs).map fun t => .tup [.ref t.1.1, .int t.2.2])) ∧
    Two (FutC m M) cs fs ∧ (a :: cs.flatMap fun c => c.1 :: c.2).Nodup
/-- one future as it is handed out -/
def futF (ns : List Nx) (t : Fut) : List (List (Str × Int)) × Int := (t.1.map (rowOf ns), t.2)
def futR (cs : List (Addr × List Addr)) (a1 : List Fut) : List D := (cs.zip a1).map fun t => .tup [.ref t.1.1, .int t.2.2]
theorem futR_map {ns : List Nx} {cs : List (Addr × List Addr)} {a1 : List Fut} : futR cs a1 = (cs.zip (a1.map (futF ns))).map fun t => .tup [.ref t.1.1, .int t.2.2] := by
  unfold futR futF
  rw [List.zip_map_right, List.map_map]
  rfl
theorem futR_snoc {cs : List (Addr × List Addr)} {a1 : List Fut} (h : cs.length = a1.length) {a : Addr} {qs : List Addr} {t : Fut} : futR (cs ++ [(a, qs)]) (a1 ++ [t]) = futR cs a1 ++ [.tup [.ref a, .int t.2]] := by
  unfold futR
  rw [List.zip_append h, List.map_append]
  rfl
theorem futC_ne {m M : Mem} {cs : List (Addr × List Addr)} {fs : List (List (List (Str × Int)) × Int)} (h : Two (FutC m M) cs fs) {a : Addr} (ha : M a = none) : ∀ x ∈ cs.flatMap (fun c => c.1 :: c.2), x ≠ a := fun x hx z => by
  obtain ⟨c, hc, hx⟩ := List.mem_flatMap.mp hx
  obtain ⟨f, _, e⟩ := two_mem h hc
  subst z
  rcases List.mem_cons.mp hx with rfl | hx
  · rw [e.e] at ha; cases ha
  · obtain ⟨r, _, _, e2⟩ := two_mem e.t hx
    rw [e2] at ha; cases ha
theorem FutC.put {m M : Mem} {a : Addr} {o : O} {c : Addr × List Addr} {f : List (List (Str × Int)) × Int} (h : FutC m M c f) (ne : ∀ x ∈ c.1 :: c.2, x ≠ a) : FutC m (mput M a o) c f :=
  ⟨h.n, by rw [mput_ne (ne _ (.head _))]; exact h.e, two_mono h.t fun x r hx e => ⟨e.1, by rw [mput_ne (ne _ (.tail _ hx))]; exact e.2⟩⟩
theorem FutC.le {m M N : Mem} {c : Addr × List Addr} {f : List (List (Str × Int)) × Int} (h : FutC m M c f) (s : Sub M N) : FutC m N c f := ⟨h.n, s _ _ h.e, two_mono h.t fun _ _ _ e => ⟨e.1, s _ _ e.2⟩⟩
theorem Sub.out {m M : Mem} {a : Addr} (s : Sub m M) (h : M a = none) : m a = none := by
  cases z : m a with
  | none => rfl
  | some o => rw [s _ _ z] at h; cases h
def gFut (C c : Addr) : SpM := fun ds m Q E => ∃ (p : Addr) (l : Int) (ns : List Nx), ds = [.ref p] ∧ MkAt C m p l ns ∧ (∀ acc, futs ns l = some acc → ∀ M a, FutsN m M a (acc.map (futF ns)) → Q (.ref a) M) ∧ (futs ns l = none → ∀ M, Sub m M → E c M)
abbrev s_Market_futures : Stmt := inClass (topS 16) 4
theorem sc_Market_futures : FnScope ["self", "found", "hour", "longer", "path", "weight", "values", "more"] ["self"] (defScope s_Market_futures) := ⟨rfl, rfl, rfl, by decide +kernel, rfl, by decide +kernel, by decide +kernel⟩
theorem ok_Market_futures {k : Nat} (V : Gv K mg) (Z : Bl mg) {c_BookError c_BadMarket c_TooMany : Addr} (XE : Xcs K mg c_BookError c_BadMarket c_TooMany) {c_Market : Addr} (O : ObK K c_Market ["last", "names", "steps", "begun"]) {f_Market_nexts : Addr} {fd_Market_nexts : FuncData} (D_Market_nexts : Dm K c_Market "nexts" f_Market_nexts fd_Market_nexts ["self", "values"]) (G_Market_nexts : FnM P w K mg base CX0 (k) f_Market_nexts fd_Market_nexts ["self", "values"] (gNexts c_Market)) {f_Market_rows : Addr} {fd_Market_rows : FuncData} (D_Market_rows : Dm K c_Market "rows" f_Market_rows fd_Market_rows ["self", "path"]) (G_Market_rows : FnM P w K mg base CX0 (k) f_Market_rows fd_Market_rows ["self", "path"] (gRows c_Market)) {f_Market_futures : Addr} {fd_Market_futures : FuncData} (F : Fun K "futures" "Market.futures" s_Market_futures f_Market_futures fd_Market_futures) : FnM P w K mg base (L2.CX P w) (k + 1) f_Market_futures fd_Market_futures ["self"] (gFut c_Market c_TooMany) := by
  refine fn_mX F sc_Market_futures (fun ds m Q E h => ?_) (fun cdv A outer s H ds m Q E E' hr h hw => ?_)
  · obtain ⟨p, l, ns, rfl, _⟩ := h; rfl
  have nd := sc_Market_futures.nd
  obtain ⟨p, l, ns, rfl, M, q, qe⟩ := h
  refine ⟨_, (mss_cons (ms_set (i := 1) nd rfl (.inl rfl) (mx_lst (ma_cons (mx_tup (ma_cons (mx_tup (ma_cons (mx_fld (mv 0) rfl) ma_nil)) (ma_cons mx_int ma_nil))) ma_nil)))
    (mss_cons (ms_for (passes_of rfl) rfl (mi_range1 Z.b_range (ma_cons (mx_fld (mv 0) rfl) ma_nil)) (mg_name (i := 2) nd rfl (.inl rfl)) (mss_cons (ms_set (i := 3) nd rfl (.inl rfl) (mx_lst ma_nil))
    (mss_cons (ms_for (passes_of rfl) rfl (mi_list (mv 1)) (mg_tup rfl (mgs_cons (mg_name (i := 4) nd rfl (.inl rfl)) (mgs_cons (mg_name (i := 5) nd rfl (.inl rfl)) mgs_nil))) (mss_one (ms_for (passes_of rfl) rfl (mi_hid (mx_meth (Em := noX) (mv 0) D_Market_nexts.c D_Market_nexts.m G_Market_nexts hr D_Market_nexts.b pass0M (ma_cons (mx_ix (mi_sub hr) (mv 4) (mx_neg mx_int)) ma_nil))) (mg_tup rfl (mgs_cons (mg_name (i := 6) nd rfl (.inl rfl)) (mgs_cons (mg_name (i := 7) nd rfl (.inl rfl)) mgs_nil))) (mss_one (ms_expr (mx_append (mv 3) (mx_tup (ma_cons (mx_op mo_plus (mv 4) (mx_tup (ma_cons (mv 6) ma_nil))) (ma_cons (mx_op mo_times (mv 5) (mv 7)) ma_nil)))))))))
    (mss_cons (ms_if (mt_cmp mo_gt (mx_callB mc_len1 Z.b_len (ma_cons (mv 3) ma_nil)) (mx_gt V.MOST_FUTURES) (nomark _)) (mss_one (ms_raise rfl (takes_of rfl rfl rfl rfl) hw (pmk_own PySem.F.excBase_ValueError XE.X_TooMany.q XE.X_TooMany.g XE.X_TooMany.k XE.X_TooMany.raises rfl))) mss_nil)
    (mss_one (ms_set (i := 1) nd rfl (.inl rfl) (mv 3)))))))
    (mss_one (ms_ret (mx_lc (own := [("path", 4), ("weight", 5)]) rfl nd (mi_list (mv 1)) (blkOk_by (by show blkC ["self", "found", "hour", "longer", "path", "weight", "values", "more"] (defScope s_Market_futures) _ _ = true; decide +kernel)) (fun _ _ _ _ _ => (pg_tup (n := 2) rfl (pgs_cons (pg_name (i := 4) nd rfl (Or.inl rfl)) (pgs_cons (pg_name (i := 5) nd rfl (Or.inl rfl)) pgs_nil)))) (gok_tup (gsok_cons (gok_name (i := 4) (by decide)) (gsok_cons (gok_name (i := 5) (by decide)) gsok_nil))) (fun _ _ _ _ _ => mts_nil) (fun _ _ _ _ _ => (mx_tup (ma_cons (mx_meth (Em := noX) (mv 0) D_Market_rows.c D_Market_rows.m G_Market_rows hr D_Market_rows.b pass0M (ma_cons (mv 4) ma_nil)) (ma_cons (mv 5) ma_nil))))))))), ?_⟩
  have hl0 := M.l0; have hl1 := M.l1
  obtain ⟨an, sn, ps, ep, ea, es, tw⟩ := M.e
  wtm_at "go"
  intro fa hfa
  wtm_at "go"
  refine ⟨by omega, by omega, ?_⟩
  refine forC_ind (fun rest ρ M' => ∃ (j : Nat) (fa : Addr) (acc : List Fut) (e2 e3 e4 e5 e6 e7 : Option D), j ≤ l.toNat ∧ rest = (rangeD 0 l.toNat).drop j ∧ ρ = [some (.ref p), some (.ref fa), e2, e3, e4, e5, e6, e7] ∧ Sub m M' ∧ m fa = none ∧ M' fa = some (.lst (acc.map futD)) ∧ futs ns l = futL ns (l.toNat - j) acc ∧ acc.length ≤ 2000 ∧ ∀ t ∈ acc, t.1.length = j + 1 ∧ ∀ vs ∈ t.1, vs.length = ns.length) ⟨0, fa, [([ns.map (·.b)], 1)], none, none, none, none, none, none, Nat.zero_le _, rfl, rfl, Sub.refl.new hfa, hfa, by rw [mput_same]; simp [futD, vsD, List.map_map], rfl, by simp, by simp⟩ ?_ ?_
  · rintro ρ M' ⟨j, fa, acc, e2, e3, e4, e5, e6, e7, hj, er, rfl, sM, n0, eM, ef, hlen, hmem⟩
    obtain rfl := rangeD_nil er hj
    rw [Nat.sub_self] at ef
    have q := q acc ef
    clear qe
    refine ⟨trivial, ?_⟩
    wtm_at "go"
    refine ⟨_, rd_L eM, ?_⟩
    refine lcC_ind (fun rest racc M2 => ∃ (cs : List (Addr × List Addr)) (a1 a2 : List Fut), acc = a1 ++ a2 ∧ rest = a2.map futD ∧ racc = futR cs a1 ∧ Sub M' M2 ∧ Two (FutC m M2) cs (a1.map (futF ns)) ∧ (cs.flatMap fun c => c.1 :: c.2).Nodup) ⟨[], [], acc, rfl, rfl, rfl, Sub.refl, .nil, .nil⟩ ?_ ?_
    · rintro racc M2 ⟨cs, a1, a2, e1, e2, rfl, s2, tw2, ndq⟩
      have : a2 = [] := by simpa using e2.symm
      subst this
      rw [List.append_nil] at e1
      subst e1
      refine ⟨rd_L (s2 _ _ eM), ?_⟩
      intro a ha
      have hne := futC_ne tw2 ha
      refine RtM.mk (q _ _ ⟨(sM.trans s2).new ha, (sM.trans s2).out ha, cs, ?_, ?_, ?_⟩)
      · rw [mput_same]; congr 2; exact futR_map
      · exact two_mono tw2 fun c f hc e => e.put (fun x hx => hne x (List.mem_flatMap.mpr ⟨c, hc, hx⟩))
      · exact List.nodup_cons.mpr ⟨fun z => hne a z rfl, ndq⟩
    · rintro d rest racc M2 K hK ⟨cs, a1, a2, e1, e2, rfl, s2, tw2, ndq⟩
      cases a2 with
      | nil => cases e2
      | cons t a2 =>
        rw [List.map_cons] at e2
        cases e2
        have ht : t ∈ acc := by rw [e1]; simp
        have hlt := hmem t ht
        refine ⟨rd_L (s2 _ _ eM), ?_⟩
        refine ⟨rfl, rfl, rfl, ?_⟩
        show wMeth c_Market "rows" (gRows c_Market) noX (wVar 0) (fun ρ m Q => wVar 4 ρ m fun d m1 => Q [d] m1) [some (.ref p), some (.ref fa), e2, e3, some (.tup (t.1.map vsD)), some (.int t.2), e6, e7] M2 fun d m1 => wVar 5 [some (.ref p), some (.ref fa), e2, e3, some (.tup (t.1.map vsD)), some (.int t.2), e6, e7] m1 fun d1 m1 => [d, d1].length ≤ sizeLine ∧ (futR cs a1).length < sizeLine ∧ K (futR cs a1 ++ [.tup [d, d1]]) m1
        have Ms := M.sub (sM.trans s2)
        obtain ⟨an, sn, ps, ep, ea, es, tw3⟩ := Ms.e
        wtm_at "go"
        refine ⟨p, l, ns, t.1, rfl, Ms, hlt.2, by rw [hlt.1]; omega, ?_⟩
        intro M3 a R3
        obtain ⟨s3, n3, qs, e3', tw4, nd3⟩ := R3
        wtm_at "go"
        have lc1 : cs.length = a1.length := by rw [tw2.length]; simp
        have la1 : a1.length < 2000 := by have := congrArg List.length e1; rw [List.length_append, List.length_cons] at this; omega
        refine ⟨?_, hK _ _ ⟨cs ++ [(a, qs)], a1 ++ [t], a2, by simp [e1], rfl, (futR_snoc lc1).symm, s2.trans s3, ?_, ?_⟩⟩
        · refine Nat.lt_of_le_of_lt (m := 2000) ?_ (by decide)
          unfold futR; rw [List.length_map, List.length_zip]; omega
        · rw [List.map_append]
          refine two_snoc (two_mono tw2 fun c f hc e => e.le s3) ⟨(sM.trans s2).out n3, e3', two_mono tw4 fun q r hq e => ⟨(sM.trans s2).out e.1, e.2⟩⟩
        · rw [List.flatMap_append, List.nodup_append]
          refine ⟨ndq, by simpa using nd3, fun x hx y hy => ?_⟩
          have hy : y ∈ a :: qs := by simpa using hy
          have yn : M2 y = none := by
            rcases List.mem_cons.mp hy with rfl | hy
            · exact n3
            · obtain ⟨r, _, e, _⟩ := two_mem tw4 hy
              exact e
          exact futC_ne tw2 yn x hx
  · rintro d rest ρ M' K2 hK ⟨j, fa, acc, e2, e3, e4, e5, e6, e7, hj, er, rfl, sM, n0, eM, ef, hlen, hmem⟩
    obtain ⟨rfl, er, hj⟩ := rangeD_drop er
    refine ⟨trivial, ?_⟩
    wtm_at "go"
    intro la hla
    have nla : m la = none := sM.out hla
    have nfl : fa ≠ la := by rintro rfl; rw [eM] at hla; cases hla
    have Mp := sM _ _ ep
    wtm_at "go"
    refine ⟨_, rd_L (mput_new hla eM), ?_⟩
    refine forC_ind (fun rest ρ M2 => ∃ (i : Nat) (e4 e5 e6 e7 : Option D), i ≤ acc.length ∧ rest = (acc.map futD).drop i ∧ ρ = [some (.ref p), some (.ref fa), some (.int j), some (.ref la), e4, e5, e6, e7] ∧ Sub M' M2 ∧ M2 la = some (.lst ((futStep ns (acc.take i)).map futD))) ⟨0, _, _, _, _, Nat.zero_le _, rfl, rfl, Sub.refl.new hla, mput_same⟩ ?_ ?_
    · rintro ρ M2 ⟨i, e4, e5, e6, e7, hi, er2, rfl, s2, eL⟩
      have hi2 := list_nil er2 (by rw [List.length_map]; exact hi)
      rw [List.length_map] at hi2
      subst hi2
      rw [List.take_length] at eL
      refine ⟨rd_L (s2 _ _ eM), ?_⟩
      have e1 : l.toNat - j = (l.toNat - (j + 1)) + 1 := by omega
      rw [e1, futL] at ef
      wtm_at "go"
      by_cases h2 : (futStep ns acc).length > 2000
      · rw [if_pos h2] at ef
        rw [decide_eq_true (show (((futStep ns acc).map futD).length : Int) > 2000 by rw [List.length_map]; omega)]
        wtm_at "go"
        exact qe ef _ (sM.trans s2)
      · rw [if_neg h2] at ef
        rw [decide_eq_false (show ¬ (((futStep ns acc).map futD).length : Int) > 2000 by rw [List.length_map]; omega)]
        wtm_at "go"
        refine hK _ _ ⟨j + 1, la, futStep ns acc, _, _, _, _, _, _, hj, er, rfl, sM.trans s2, nla, eL, ef, by omega, ?_⟩
        intro u hu
        obtain ⟨t, ht, hu⟩ := List.mem_flatMap.mp hu
        obtain ⟨x, hx, rfl⟩ := List.mem_map.mp hu
        have hmt := hmem t ht
        obtain ⟨v0, hv0⟩ : ∃ v0, t.1.getLast? = some v0 := by
          cases e : t.1.getLast? with
          | none => rw [List.getLast?_eq_none_iff] at e; rw [e] at hmt; simp at hmt
          | some v0 => exact ⟨v0, rfl⟩
        rw [hv0, Option.getD_some] at hx
        have hv1 := hmt.2 v0 (List.mem_of_getLast? hv0)
        have hx2 := nextsL_mem hv1 x hx
        refine ⟨by rw [List.length_append, hmt.1]; rfl, fun vs hvs => ?_⟩
        rcases List.mem_append.mp hvs with h | h
        · exact hmt.2 vs h
        · rw [List.mem_singleton] at h; rw [h]; exact hx2
    · rintro d2 rest2 ρ M2 K3 hK3 ⟨i, e4, e5, e6, e7, hi, er2, rfl, s2, eL⟩
      obtain ⟨hd, er2', hi⟩ := list_drop er2
      rw [List.length_map] at hi
      rw [List.getElem?_map] at hd
      obtain ⟨t, ht, rfl⟩ := Option.map_eq_some_iff.mp hd
      refine ⟨rd_L (s2 _ _ eM), ?_⟩
      have hmt := hmem t (List.mem_of_getElem? ht)
      obtain ⟨path, wt⟩ := t
      obtain ⟨l1, vs, rfl⟩ : ∃ l1 vs, path = l1 ++ [vs] := ⟨path.dropLast, path.getLast (by intro z; rw [z] at hmt; simp at hmt), (List.dropLast_concat_getLast _).symm⟩
      rw [show futD (l1 ++ [vs], wt) = .tup [.tup ((l1 ++ [vs]).map vsD), .int wt] from rfl]
      have Mp2 := s2 _ _ Mp
      wtm_at "go"
      refine i_subT (by rw [List.map_append]; exact atI_last _ _) ?_
      wtm_at "go"
      refine ⟨p, l, ns, vs, rfl, M.sub (sM.trans s2), hmt.2 vs (by simp), ?_⟩
      intro na hna
      wtm_at "go"
      refine ⟨_, M2, rd_of mput_same trivial, fun b o e => mput_new hna e, .inl hna, ?_⟩
      refine forC_ind (fun rest ρ M3 => ∃ (h : Nat) (e6 e7 : Option D), h ≤ (nextsL ns vs).length ∧ rest = ((nextsL ns vs).map pwD).drop h ∧ ρ = [some (.ref p), some (.ref fa), some (.int j), some (.ref la), some (.tup ((l1 ++ [vs]).map vsD)), some (.int wt), e6, e7] ∧ Sub M' M3 ∧ M3 la = some (.lst ((futStep ns (acc.take i) ++ (futOne ns (l1 ++ [vs], wt)).take h).map futD))) ⟨0, _, _, Nat.zero_le _, rfl, rfl, s2, by rw [eL]; simp⟩ ?_ ?_
      · rintro ρ M3 ⟨h, e6, e7, hh, er3, rfl, s3, eL3⟩
        have hh2 := list_nil er3 (by rw [List.length_map]; exact hh)
        rw [List.length_map] at hh2
        subst hh2
        refine ⟨trivial, ?_⟩
        refine hK3 _ _ ⟨i + 1, _, _, _, _, hi, er2', rfl, s3, ?_⟩
        have ht' : (futOne ns (l1 ++ [vs], wt)).take (nextsL ns vs).length = futOne ns (l1 ++ [vs], wt) := List.take_of_length_le (by rw [futOne_last, List.length_map]; exact Nat.le_refl _)
        rw [eL3, List.take_succ, ht, show (some (l1 ++ [vs], wt) : Option Fut).toList = [(l1 ++ [vs], wt)] from rfl, futStep_snoc, ht']
      · rintro d3 rest3 ρ M3 K4 hK4 ⟨h, e6, e7, hh, er3, rfl, s3, eL3⟩
        obtain ⟨hd, er3', hh⟩ := list_drop er3
        rw [List.length_map] at hh
        rw [List.getElem?_map] at hd
        obtain ⟨u, hu, rfl⟩ := Option.map_eq_some_iff.mp hd
        refine ⟨trivial, ?_⟩
        rw [show pwD u = .tup [.tup (u.1.map .int), .int u.2] from rfl]
        have lF : (futStep ns (acc.take i)).length ≤ 2000 * 64 := by
          refine Nat.le_trans (futStep_len (n := 64) fun t ht => ?_) (Nat.mul_le_mul_right _ (by rw [List.length_take]; omega))
          exact nextsL_len M.n3 M.ok
        have lN : (nextsL ns vs).length ≤ 64 := nextsL_len M.n3 M.ok
        wtm_at "go"
        refine ⟨⟨_, rd_L eL3⟩, ?_⟩
        wtm_at "go"
        have hpl := hmt.1
        refine i_plusT (sl (by simp at hpl ⊢; omega)) ?_
        wtm_at "go"
        have huw := nextsL_w M.n3 M.ok u (List.mem_of_getElem? hu)
        refine i_timesLL (.inr (by omega)) ?_
        wtm_at "go"
        refine ⟨_, eL3, Nat.lt_of_le_of_lt (m := 130000) (by rw [List.length_map, List.length_append, List.length_take]; omega) (by decide), ?_⟩
        refine hK4 _ _ ⟨h + 1, _, _, hh, er3', rfl, fun b o e => by rw [mput_ne (by rintro rfl; rw [hla] at e; cases e)]; exact s3 _ _ e, ?_⟩
        rw [mput_same, List.take_succ, futOne_last, List.getElem?_map, hu]
        simp [futD, vsD]

local macro_rules | `(tactic| wtm_at "dec") => `(tactic| (simp; omega))
local macro_rules | `(tactic| wtm_at "dec") => `(tactic| (simp [isTy, isiB]; done))
local macro_rules | `(tactic| wtm_at "dec") => `(tactic| first | with_reducible rfl | (simp only [isN, ofString_inj, decide_eq_true_eq, decide_eq_false_iff_not, String.reduceEq, reduceCtorEq, not_false_eq_true, decide_true, decide_false, Bool.not_true, Bool.not_false, Bool.not_eq_true', Bool.not_eq_false', Int.reduceLT, Int.reduceLE, Int.reduceEq]; done) | (decide) | (simp; done) | fail)
local macro_rules | `(tactic| wtm_at "one") => `(tactic| first | (with_reducible refine gMust_in ?_) | ((with_reducible apply i_isiK); (focus assumption); (focus decide)))
local macro_rules | `(tactic| wtm_at "kdt") => `(tactic| (repeat' first | with_reducible assumption | with_reducible exact kdA_nil | with_reducible refine kdA_cons ?_ ?_ | with_reducible refine kdA_app ?_ ?_ | with_reducible exact Kd.non | with_reducible exact Kd.int _ | with_reducible exact Kd.bl _ | with_reducible exact kd_tup0 | ((with_reducible refine kd_tup ?_ ?_); (focus rfl)) | (refine Kd.str _ ?_ ?_ <;> decide +kernel)))
local macro_rules | `(tactic| wtm_at "one") => `(tactic| first
  | (with_reducible first | refine i_wsetF ?_ | refine i_wfld ?_ | refine i_wmeth ?_ | refine i_wmethS ?_ | refine i_wmake ?_ | refine i_wmakeS ?_)
  | ((with_reducible apply i_fld); (focus (wtm_at "mem")); (focus assumption); (focus (simp; done)); (focus (wtm_at "mlk")))
  | ((with_reducible apply i_meth); (focus (wtm_at "mem")); (focus (wtm_at "mlk"))))
local macro_rules | `(tactic| wtm_at "mem") => `(tactic| with_reducible first | assumption | exact mput_same | (apply mput_new; assumption; wtm_at "mem") | (apply mput_off; assumption; wtm_at "mem") | (apply mput_off'; assumption; wtm_at "mem") | (apply rd_K; wtm_at "mem") | (apply rd_L; wtm_at "mem") | (apply rd_T; wtm_at "mem") | (apply rd_I; wtm_at "mem") | (apply rd_frz; wtm_at "mem") | fail)
local macro_rules | `(tactic| wtm_at "mlk") => `(tactic| with_reducible first | exact mkF2_names | exact mkF2_steps | exact mkF_last | exact mkF_names | exact mkF_steps | exact mkF_begun | exact mkF2_ns | exact mkF_no (by simp [ofString_inj]) (by simp [ofString_inj]) (by simp [ofString_inj]) (by simp [ofString_inj]))
/-! ### whether rows are a future -/
theorem fz_eqvI : ∀ a b : List Int, PyData.eqvAll (a.map .int) (b.map .int) = decide (a = b)
  | [], [] => rfl
  | [], _ :: _ => by simp [PyData.eqvAll]
  | _ :: _, [] => by simp [PyData.eqvAll]
  | x :: a, y :: b => by
    rw [List.map_cons, List.map_cons, PyData.eqvAll, fz_eqvI a b]
    simp only [PyData.eqv]
    by_cases h1 : x = y
    · subst h1; simp
    · simp [h1]
theorem fz_eqvS : ∀ a b : List Str, PyData.eqvAll (a.map .str) (b.map .str) = decide (a = b)
  | [], [] => rfl
  | [], _ :: _ => by simp [PyData.eqvAll]
  | _ :: _, [] => by simp [PyData.eqvAll]
  | x :: a, y :: b => by
    rw [List.map_cons, List.map_cons, PyData.eqvAll, fz_eqvS a b]
    simp only [PyData.eqv]
    by_cases h1 : x = y
    · subst h1; simp
    · simp [h1]
theorem fz_vwI {m : Mem} : ∀ a : List Int, VwA m (a.map .int) (a.map .int)
  | [] => .nil
  | x :: a => .cons (.int x) (fz_vwI a)
theorem fz_vwS {m : Mem} : ∀ a : List Str, VwA m (a.map .str) (a.map .str)
  | [] => .nil
  | x :: a => .cons (.str x) (fz_vwS a)
theorem fz_layI : ∀ a : List Int, PyData.canLayAll0 (a.map .int) = true ∧ PyData.depthAll (a.map .int) = 0
  | [] => ⟨rfl, rfl⟩
  | x :: a => by
    obtain ⟨h1, h2⟩ := fz_layI a
    exact ⟨by simp only [List.map_cons, PyData.canLayAll0, PyData.canLay0, h1, Bool.and_self], by simp only [List.map_cons, PyData.depthAll, PyData.depth, h2]; rfl⟩
theorem fz_layS : ∀ a : List Str, (∀ x ∈ a, PyData.strOk x = true) → PyData.canLayAll0 (a.map PyData.str) = true ∧ PyData.depthAll (a.map PyData.str) = 0
  | [], _ => ⟨rfl, rfl⟩
  | x :: a, h => by
    obtain ⟨h1, h2⟩ := fz_layS a fun y hy => h y (.tail _ hy)
    have h3 := h x (.head _)
    exact ⟨by simp only [List.map_cons, PyData.canLayAll0, PyData.canLay0, h1, h3, Bool.and_self], by simp only [List.map_cons, PyData.depthAll, PyData.depth, h2]; rfl⟩
theorem fz_shI (a : List Int) : SeqAt.shaped (.tuple (a.map .int)) = true := by
  obtain ⟨h1, h2⟩ := fz_layI a
  show ((PyData.tuple (a.map .int)).canLay0 && decide ((PyData.tuple (a.map .int)).depth ≤ 64)) = true
  rw [Bool.and_eq_true]
  exact ⟨h1, decide_eq_true (by rw [PyData.depth, h2]; omega)⟩
theorem fz_shS {a : List Str} (h : ∀ x ∈ a, PyData.strOk x = true) : SeqAt.shaped (.list (a.map .str)) = true := by
  obtain ⟨h1, h2⟩ := fz_layS a h
  show ((PyData.list (a.map .str)).canLay0 && decide ((PyData.list (a.map .str)).depth ≤ 64)) = true
  rw [Bool.and_eq_true]
  exact ⟨h1, decide_eq_true (by rw [PyData.depth, h2]; omega)⟩
theorem fz_layT : ∀ a : List (List Int), PyData.canLayAll0 (a.map fun x => .tuple (x.map .int)) = true ∧ PyData.depthAll (a.map fun x => .tuple (x.map .int)) ≤ 1
  | [] => ⟨rfl, by simp [PyData.depthAll]⟩
  | x :: a => by
    obtain ⟨h1, h2⟩ := fz_layT a
    obtain ⟨g1, g2⟩ := fz_layI x
    refine ⟨by simp only [List.map_cons, PyData.canLayAll0, PyData.canLay0, h1, g1, Bool.and_self], ?_⟩
    rw [List.map_cons, PyData.depthAll, PyData.depth, g2]
    omega
theorem fz_shT (a : List (List Int)) : SeqAt.shaped (.list (a.map fun x => .tuple (x.map .int))) = true := by
  obtain ⟨h1, h2⟩ := fz_layT a
  show ((PyData.list (a.map fun x => .tuple (x.map .int))).canLay0 && decide ((PyData.list (a.map fun x => .tuple (x.map .int))).depth ≤ 64)) = true
  rw [Bool.and_eq_true]
  exact ⟨h1, decide_eq_true (by rw [PyData.depth]; omega)⟩
theorem fz_vwT {m : Mem} : ∀ a : List (List Int), VwA m (a.map vsD) (a.map fun x => .tuple (x.map .int))
  | [] => .nil
  | x :: a => .cons (.tup (fz_vwI x)) (fz_vwT a)
/-- two tuples of numbers -/
theorem eq_vs {m : Mem} {xs ys : List Int} : EqB m (vsD xs) (vsD ys) (decide (xs = ys)) := by
  refine .inr (.inl ⟨_, _, .tup (fz_vwI xs), .tup (fz_vwI ys), fz_shI xs, fz_shI ys, ?_⟩)
  rw [← fz_eqvI xs ys]; simp only [PyData.eqv]
/-- two lists of texts -/
theorem eq_ws {m : Mem} {a b : Addr} {xs ys : List Str} (h1 : rdM m a = some (.lst (xs.map .str))) (h2 : rdM m b = some (.lst (ys.map .str))) (sx : ∀ x ∈ xs, PyData.strOk x = true) (sy : ∀ x ∈ ys, PyData.strOk x = true) : EqB m (.ref a) (.ref b) (decide (xs = ys)) := by
  refine .inr (.inl ⟨_, _, .lst h1 (fz_vwS xs), .lst h2 (fz_vwS ys), fz_shS sx, fz_shS sy, ?_⟩)
  rw [← fz_eqvS xs ys]; simp only [PyData.eqv]
/-- a tuple of numbers in a list of such -/
theorem in_vs {m : Mem} {a : Addr} {xs : List Int} {ys : List (List Int)} (h : rdM m a = some (.lst (ys.map vsD))) : InB m (vsD xs) (.ref a) (decide (xs ∈ ys)) := by
  refine .inr (.inr (.inr ⟨_, _, .tup (fz_vwI xs), .lst h (fz_vwT ys), fz_shI xs, fz_shT ys, ?_⟩))
  clear h
  induction ys with
  | nil => simp
  | cons y ys ih =>
    rw [List.map_cons, List.any_cons, ← ih]
    have : PyData.eqv (.tuple (y.map .int)) (.tuple (xs.map .int)) = decide (y = xs) := by rw [← fz_eqvI y xs]; simp only [PyData.eqv]
    rw [this]
    by_cases e : y = xs
    · subst e; simp
    · have : ¬ xs = y := fun z => e z.symm
      simp [e, this]
theorem fz_wd {x : Str} (h : okWord (.str x) = true) : x.length ≤ 8 ∧ PyData.strOk x = true := by
  have h := of_decide_eq_true h
  refine ⟨h.2.1, ?_⟩
  show x.cps.all (· < 0x110000) = true
  rw [← Array.all_toList, List.all_eq_true]
  intro c hc
  have hs : ∀ c ∈ smallCps, c < 0x110000 := by decide +kernel
  exact decide_eq_true (hs c (h.2.2 c hc))
/-- the keys of a row may be sorted and set beside others -/
structure KsOk (r : Row) : Prop where
  n : r.length < 64
  s : ∀ x ∈ r.map (·.1), PyData.strOk x = true
def namesOk (ns : List Nx) (r : Row) : Bool := (r.map (·.1)).isPerm (ns.map (·.w))
def vsOf (ns : List Nx) (r : Row) : List Int := ns.map fun n => r.at n.w
def stepOk (ns : List Nx) (u v : List Int) : Bool := decide (v ∈ (nextsL ns u).map (·.1))
def pathOk (ns : List Nx) (path : List (List Int)) (j : Nat) : Bool := stepOk ns (path.getD j []) (path.getD (j + 1) [])
def isFut (l : Int) (ns : List Nx) (rows : List Row) : Bool :=
  (decide ((rows.length : Int) = l + 1) && rows.all (namesOk ns)) && decide ((rows.map (vsOf ns)).getD 0 [] = ns.map (·.b)) && (List.range l.toNat).all (pathOk ns (rows.map (vsOf ns)))
def readD (r : Row) : D → D
  | .str w => .int (r.at w)
  | _ => .non
def fstD : D → D
  | .tup (x :: _) => x
  | _ => .non
/-- what is known of rows: where they stand -/
structure RowsH (m : Mem) (q : Addr) (qs : List Addr) (rows : List Row) : Prop where
  e : rdM m q = some (.lst (qs.map .ref))
  t : Two (fun a r => m a = some r.o) qs rows
  k : ∀ r ∈ rows, KsOk r
  n : rows.length ≤ 1000
theorem RowsH.sub {m M : Mem} {q : Addr} {qs : List Addr} {rows : List Row} (h : RowsH m q qs rows) (s : Sub m M) : RowsH M q qs rows := ⟨rdM_le s h.e, two_mono h.t fun _ _ _ e => s _ _ e, h.k, h.n⟩
def gIsFut (C : Addr) : SpM := fun ds m Q _ => ∃ (p q : Addr) (l : Int) (ns : List Nx) (qs : List Addr) (rows : List Row), ds = [.ref p, .ref q] ∧ MkAt C m p l ns ∧ RowsH m q qs rows ∧ ∀ M, Sub m M → Q (.bl (isFut l ns rows)) M
theorem srt_perm {xs ys xs' ys' : List Str} (h1 : SrtT xs') (p1 : xs'.Perm xs) (h2 : SrtT ys') (p2 : ys'.Perm ys) : decide (xs' = ys') = xs.isPerm ys := by
  rw [Bool.eq_iff_iff, decide_eq_true_iff, List.isPerm_iff]
  constructor
  · rintro rfl; exact p1.symm.trans p2
  · intro p; exact srtT_uniq h1 h2 (p1.trans (p.trans p2.symm))
theorem mem_lookup {x : Str} : ∀ {r : Row}, x ∈ r.map (·.1) → ∃ i, r.lookup x = some i
  | [], h => by cases h
  | p :: r, h => by
    obtain ⟨y, j⟩ := p
    by_cases e : x = y
    · subst e; exact ⟨j, by simp [List.lookup]⟩
    · have h : x ∈ r.map (·.1) := by
        rcases List.mem_cons.mp h with h | h
        · exact (e h).elim
        · exact h
      obtain ⟨i, hi⟩ := mem_lookup h
      have e2 : (x == y) = false := by simpa using e
      exact ⟨i, by simp only [List.lookup, e2]; exact hi⟩
theorem atI_getD {α : Type} {L : List α} {j : Nat} {d : α} (f : α → D) (h : j < L.length) : atI (L.map f) (j : Int) = some (f (L.getD j d)) := by
  refine atI_nat ?_
  rw [List.getElem?_map, List.getD_eq_getElem?_getD, List.getElem?_eq_getElem h]; rfl
abbrev s_Market_is_future : Stmt := inClass (topS 16) 6
theorem sc_Market_is_future : FnScope ["self", "rows", "row", "path", "name", "hour", "values", "weight"] ["self", "rows"] (defScope s_Market_is_future) := ⟨rfl, rfl, rfl, by decide +kernel, rfl, by decide +kernel, by decide +kernel⟩
theorem ok_Market_is_future {k : Nat} (Z : Bl mg) {c_Market : Addr} (O : ObK K c_Market ["last", "names", "steps", "begun"]) {f_Market_nexts : Addr} {fd_Market_nexts : FuncData} (D_Market_nexts : Dm K c_Market "nexts" f_Market_nexts fd_Market_nexts ["self", "values"]) (G_Market_nexts : FnM P w K mg base CX0 (k) f_Market_nexts fd_Market_nexts ["self", "values"] (gNexts c_Market)) {f_Market_is_future : Addr} {fd_Market_is_future : FuncData} (F : Fun K "is_future" "Market.is_future" s_Market_is_future f_Market_is_future fd_Market_is_future) : FnM P w K mg base CX0 (k + 1) f_Market_is_future fd_Market_is_future ["self", "rows"] (gIsFut c_Market) := by
  refine fn_m F sc_Market_is_future (fun ds m Q E h => ?_) (fun cdv A outer s H ds m Q E E' hr h => ?_)
  · obtain ⟨p, q, l, ns, qs, rows, rfl, _⟩ := h; rfl
  have nd := sc_Market_is_future.nd
  obtain ⟨p, q, l, ns, qs, rows, rfl, M, R, q⟩ := h
  refine ⟨_, (mss_cons (ms_if (mw_pt (mw_or (mt_cmp (mo_neq hr) (mx_callB mc_len1 Z.b_len (ma_cons (mv 1) ma_nil)) (mx_op mo_plus (mx_fld (mv 0) rfl) mx_int) (nomark _)) (mw_or1 (mt_not (mt_val (mx_callB mc_all1 Z.b_all (ma_cons (mx_lc (own := [("row", 2)]) rfl nd (mi_list (mv 1)) (blkOk_by (by show blkC ["self", "rows", "row", "path", "name", "hour", "values", "weight"] (defScope s_Market_is_future) _ _ = true; decide +kernel)) (fun _ _ _ _ _ => (pg_name (i := 2) nd rfl (Or.inl rfl))) (gok_name (i := 2) (by decide)) (fun _ _ _ _ _ => mts_nil) (fun _ _ _ _ _ => (mx_cmp (mo_eqq hr) (mx_callB mc_sortedS Z.b_sorted (ma_cons (mx_callTy mc_list1 Z.b_list (ma_cons (mv 2) ma_nil)) ma_nil)) (mx_callB mc_sortedS Z.b_sorted (ma_cons (mx_fldC (K' := K) rfl (mv 0) rfl) ma_nil)) (nomark _)))) ma_nil))))))) (mss_one (ms_ret mx_bl)) mss_nil)
    (mss_cons (ms_setLc (i := 3) (own := [("row", 2)]) rfl nd rfl rfl (sw_true rfl rfl rfl (by decide +kernel)) (mi_list (mv 1)) (blkOk_by (by show blkC ["self", "rows", "row", "path", "name", "hour", "values", "weight"] (defScope s_Market_is_future) _ _ = true; decide +kernel)) (fun _ _ _ _ _ => (pg_name (i := 2) nd rfl (Or.inr rfl))) (gok_name (i := 2) (by decide)) (fun _ _ _ _ _ => mts_nil) (fun _ _ _ _ _ => (mx_callTy mc_tuple1 Z.b_tuple (ma_cons (mx_lc (own := [("name", 4)]) rfl nd (mi_list (mx_fldC (K' := K) rfl (mv 0) rfl)) (blkOk_by (by show blkC ["self", "rows", "row", "path", "name", "hour", "values", "weight"] (scR (defScope s_Market_is_future) (scO (((defBody s_Market_is_future)[1]?).getD s_Market_is_future))) _ _ = true; decide +kernel)) (fun _ _ _ _ _ => (pg_name (i := 4) nd rfl (Or.inl rfl))) (gok_name (i := 4) (by decide)) (fun _ _ _ _ _ => mts_nil) (fun _ _ _ _ _ => (mx_ix (mi_sub hr) (mv 2) (mv 4)))) ma_nil))))
    (mss_cons (ms_if (mt_cmp (mo_neq hr) (mx_ix (mi_sub hr) (mv 3) mx_int) (mx_fld (mv 0) rfl) (nomark _)) (mss_one (ms_ret mx_bl)) mss_nil)
    (mss_cons (ms_for PassesOwn.never rfl (mi_range1 Z.b_range (ma_cons (mx_fld (mv 0) rfl) ma_nil)) (mg_name (i := 5) nd rfl (.inl rfl)) (mss_one (ms_if (mt_cmp (mo_notin hr) (mx_ix (mi_sub hr) (mv 3) (mx_op mo_plus (mv 5) mx_int)) (mx_lc (own := [("values", 6), ("weight", 7)]) rfl nd (mi_hid (mx_meth (Em := noX) (mv 0) D_Market_nexts.c D_Market_nexts.m G_Market_nexts hr D_Market_nexts.b pass0M (ma_cons (mx_ix (mi_sub hr) (mv 3) (mv 5)) ma_nil))) (blkOk_by (by show blkC ["self", "rows", "row", "path", "name", "hour", "values", "weight"] (defScope s_Market_is_future) _ _ = true; decide +kernel)) (fun _ _ _ _ _ => (pg_tup (n := 2) rfl (pgs_cons (pg_name (i := 6) nd rfl (Or.inl rfl)) (pgs_cons (pg_name (i := 7) nd rfl (Or.inl rfl)) pgs_nil)))) (gok_tup (gsok_cons (gok_name (i := 6) (by decide)) (gsok_cons (gok_name (i := 7) (by decide)) gsok_nil))) (fun _ _ _ _ _ => mts_nil) (fun _ _ _ _ _ => (mv 6))) rfl) (mss_one (ms_ret mx_bl)) mss_nil)))
    (mss_one (ms_ret mx_bl)))))), ?_⟩
  have hl0 := M.l0; have hl1 := M.l1; have hn3 := M.n3
  have hqr := Paired.length R.t
  have hre := R.e
  obtain ⟨an, sn, ps, ep, ea, es, tw⟩ := M.e
  wtm_at "go"
  by_cases hL : ((qs.map D.ref).length : Int) = l + 1
  rotate_left
  · rw [decide_eq_false hL]
    have q := q m Sub.refl
    rw [show isFut l ns rows = false by
      unfold isFut
      rw [decide_eq_false (show ¬ (rows.length : Int) = l + 1 by rw [List.length_map, hqr] at hL; exact hL)]; simp] at q
    wtm_at "go"
  rw [decide_eq_true hL]
  rw [List.length_map, hqr] at hL
  wtm_at "go"
  refine ⟨_, hre, ?_⟩
  refine lcC_ind (fun rest acc M' => ∃ j, j ≤ rows.length ∧ rest = (qs.map D.ref).drop j ∧ acc = ((rows.take j).map (namesOk ns)).map .bl ∧ Sub m M') ⟨0, Nat.zero_le _, rfl, rfl, Sub.refl⟩ ?_ ?_
  rotate_left
  · rintro d rest acc M' K2 hK ⟨j, hj, er, rfl, sM⟩
    obtain ⟨hd, er', hj'⟩ := list_drop er
    rw [List.getElem?_map] at hd
    obtain ⟨a, ha, rfl⟩ := Option.map_eq_some_iff.mp hd
    rw [List.length_map, hqr] at hj'
    obtain ⟨r, hr1⟩ : ∃ r, rows[j]? = some r := ⟨rows[j], by simp [hj']⟩
    obtain ⟨a', ha', ear⟩ := two_get R.t hr1
    rw [ha] at ha'; cases ha'
    have hks := R.k r (List.mem_of_getElem? hr1)
    have ep' := sM _ _ ep
    have ea' := sM _ _ ea
    refine ⟨rdM_le sM hre, rfl, ?_⟩
    wtm_at "go"
    refine i_yes (i_iteT rfl ?_)
    wtm_at "go"
    refine i_listD (sM _ _ ear) ?_
    intro p1 hp1
    have s1 := sM.new (o := .lst ((r.map (·.1)).map .str)) hp1
    have e1 : mput M' p1 (.lst ((r.map (·.1)).map .str)) p1 = _ := mput_same
    rw [show ((r.map fun p => ((.inr p.1 : Key), D.int p.2)).map fun p => kD p.1) = (r.map (·.1)).map .str by rw [List.map_map, List.map_map]; rfl]
    generalize mput M' p1 (.lst ((r.map (·.1)).map .str)) = M1 at s1 e1 ⊢
    wtm_at "go"
    refine ⟨_, rd_L e1, by rw [List.length_map]; exact hks.n, fun ys hy1 hy2 => ?_⟩
    intro p2 hp2
    have s2 := s1.new (o := .lst (ys.map .str)) hp2
    have e2 : mput M1 p2 (.lst (ys.map .str)) p2 = _ := mput_same
    generalize mput M1 p2 (.lst (ys.map .str)) = M2 at s2 e2 ⊢
    have ep2 := s2 _ _ ep
    wtm_at "go"
    refine ⟨ns.map (·.w), by rw [rd_L (s2 _ _ ea), List.map_map]; rfl, by rw [List.length_map]; omega, fun zs hz1 hz2 => ?_⟩
    intro p3 hp3
    have s3 := s2.new (o := .lst (zs.map .str)) hp3
    have e3 : mput M2 p3 (.lst (zs.map .str)) p3 = _ := mput_same
    have e2' : mput M2 p3 (.lst (zs.map .str)) p2 = _ := mput_new hp3 e2
    generalize mput M2 p3 (.lst (zs.map .str)) = M3 at s3 e3 e2' ⊢
    have ky : ∀ x ∈ ys, PyData.strOk x = true := fun x hx => hks.s x (hy2.mem_iff.mp hx)
    have kz : ∀ x ∈ zs, PyData.strOk x = true := fun x hx => by
      have := hz2.mem_iff.mp hx
      obtain ⟨n, hn, rfl⟩ := List.mem_map.mp this
      exact (fz_wd (M.ok n hn).w).2
    refine ⟨_, eq_ws (rd_L e2') (rd_L e3) ky kz, ?_⟩
    rw [srt_perm hy1 hy2 hz1 hz2]
    refine ⟨Nat.lt_of_lt_of_le (by rw [List.length_map, List.length_map, List.length_take]; omega) (sl (Nat.le_refl 1000)), hK _ _ ⟨j + 1, by omega, er', ?_, s3⟩⟩
    rw [List.take_succ, hr1]
    simp [namesOk]
  rintro acc M' ⟨j, hj, er, rfl, sM⟩
  obtain rfl : j = rows.length := by
    have := list_nil er (by rw [List.length_map]; omega)
    rw [List.length_map] at this; omega
  refine ⟨rdM_le sM hre, ?_⟩
  intro pa hpa
  have s1 := sM.new (o := .lst (((rows.take rows.length).map (namesOk ns)).map .bl)) hpa
  wtm_at "go"
  refine ⟨rows.map (namesOk ns), by rw [List.take_length]; exact rd_L mput_same, ?_⟩
  generalize mput M' pa _ = M1 at s1 ⊢
  wtm_at "go"
  cases hA : (rows.map (namesOk ns)).all id with
  | false =>
    have q := q M1 s1
    rw [show isFut l ns rows = false by
      have : rows.all (namesOk ns) = false := by rw [← hA, List.all_map]; rfl
      unfold isFut; rw [this]; simp] at q
    wtm_at "go"
  | true =>
  have hA : rows.all (namesOk ns) = true := by rw [← hA, List.all_map]; rfl
  have ep1 := s1 _ _ ep
  wtm_at "go"
  refine ⟨_, rdM_le s1 hre, ?_⟩
  refine lcC_ind (fun rest acc M' => ∃ j, j ≤ rows.length ∧ rest = (qs.map D.ref).drop j ∧ acc = ((rows.take j).map (vsOf ns)).map vsD ∧ Sub m M') ⟨0, Nat.zero_le _, rfl, rfl, s1⟩ ?_ ?_
  rotate_left
  · rintro d rest acc M' K2 hK ⟨j, hj, er, rfl, sM⟩
    obtain ⟨hd, er', hj'⟩ := list_drop er
    rw [List.getElem?_map] at hd
    obtain ⟨a, ha, rfl⟩ := Option.map_eq_some_iff.mp hd
    rw [List.length_map, hqr] at hj'
    obtain ⟨r, hr1⟩ : ∃ r, rows[j]? = some r := ⟨rows[j], by simp [hj']⟩
    obtain ⟨a', ha', ear⟩ := two_get R.t hr1
    rw [ha] at ha'; cases ha'
    have hrm := List.mem_of_getElem? hr1
    have hok : (r.map (·.1)).Perm (ns.map (·.w)) := List.isPerm_iff.mp (List.all_eq_true.mp hA r hrm)
    have ep' := sM _ _ ep
    have ea' := sM _ _ ea
    have ear' := sM _ _ ear
    refine ⟨rdM_le sM hre, rfl, ?_⟩
    wtm_at "go"
    refine i_yes (i_iteT rfl ?_)
    wtm_at "go"
    refine ⟨_, rd_L ea', ?_⟩
    refine lcC_pure (readD r) (sl (by rw [List.length_map]; omega)) (rd_L ea') ?_ ?_
    · intro d hd R2 hR2
      obtain ⟨n, hn, rfl⟩ := List.mem_map.mp hd
      obtain ⟨i, hi⟩ := mem_lookup (hok.mem_iff.mpr (List.mem_map.mpr ⟨n, hn, rfl⟩))
      refine ⟨rfl, ?_⟩
      wtm_at "go"
      refine i_subK (rd_K ear') (row_val hi) ?_
      have : r.at n.w = i := by unfold Row.at; rw [hi]; rfl
      rw [← this]
      exact hR2
    intro p1 hp1
    wtm_at "go"
    rw [show ((ns.map fun n => D.str n.w).map (readD r)) = (vsOf ns r).map .int by unfold vsOf; rw [List.map_map, List.map_map]; rfl]
    refine ⟨Nat.lt_of_lt_of_le (by rw [List.length_map, List.length_map, List.length_take]; omega) (sl (Nat.le_refl 1000)), hK _ _ ⟨j + 1, by omega, er', ?_, sM.new hp1⟩⟩
    rw [List.take_succ, hr1]
    simp
  rintro acc M' ⟨j, hj, er, rfl, sM⟩
  obtain rfl : j = rows.length := by
    have := list_nil er (by rw [List.length_map]; omega)
    rw [List.length_map] at this; omega
  rw [List.take_length]
  refine ⟨rdM_le sM hre, ?_⟩
  intro pp hpp
  have s2 := sM.new (o := .lst ((rows.map (vsOf ns)).map vsD)) hpp
  have epp : mput M' pp (.lst ((rows.map (vsOf ns)).map vsD)) pp = _ := mput_same
  generalize mput M' pp (.lst ((rows.map (vsOf ns)).map vsD)) = M2 at s2 epp ⊢
  have npp : m pp = none := sM.out hpp
  have ep2 := s2 _ _ ep
  have lpath : (rows.map (vsOf ns)).length = l.toNat + 1 := by rw [List.length_map]; omega
  generalize hpath : rows.map (vsOf ns) = path at epp lpath
  have isf : isFut l ns rows = (decide (path.getD 0 [] = ns.map (·.b)) && (List.range l.toNat).all (pathOk ns path)) := by
    unfold isFut; rw [decide_eq_true hL, hA, hpath]; simp
  rw [isf] at q
  wtm_at "go"
  refine i_subL (rd_L epp) (atI_getD (j := 0) (d := []) vsD (by omega)) ?_
  wtm_at "go"
  refine ⟨_, by rw [show (ns.map fun n => D.int n.b) = (ns.map (·.b)).map .int by rw [List.map_map]; rfl]; exact eq_vs, ?_⟩
  by_cases hB : path.getD 0 [] = ns.map (·.b)
  rotate_left
  · have q := q M2 s2
    rw [decide_eq_false hB, Bool.false_and] at q
    rw [decide_eq_false hB]
    wtm_at "go"
  rw [decide_eq_true hB, Bool.true_and] at q
  rw [decide_eq_true hB]
  wtm_at "go"
  refine ⟨by omega, by omega, ?_⟩
  refine forC_ind (fun rest ρ M' => ∃ (j : Nat) (e5 : Option D), j ≤ l.toNat ∧ rest = (rangeD 0 l.toNat).drop j ∧ ρ = [some (.ref p), some (.ref _), none, some (.ref pp), none, e5, none, none] ∧ Sub m M' ∧ M' pp = some (.lst (path.map vsD)) ∧ ∀ i < j, pathOk ns path i = true) ⟨0, none, Nat.zero_le _, rfl, rfl, s2, epp, (fun i h => absurd h (Nat.not_lt_zero i))⟩ ?_ ?_
  · rintro ρ M' ⟨j, e5, hj, er, rfl, sM, eP, hAll⟩
    obtain rfl := rangeD_nil er hj
    refine ⟨trivial, ?_⟩
    have q := q M' sM
    rw [show (List.range l.toNat).all (pathOk ns path) = true from List.all_eq_true.mpr fun i hi => hAll i (List.mem_range.mp hi)] at q
    wtm_at "go"
  · rintro d rest ρ M' K2 hK ⟨j, e5, hj, er, rfl, sM, eP, hAll⟩
    obtain ⟨rfl, er, hj⟩ := rangeD_drop er
    refine ⟨trivial, ?_⟩
    have hv1 : (path.getD j []).length = ns.length := by
      have : path.getD j [] ∈ path := by
        rw [List.getD_eq_getElem?_getD, List.getElem?_eq_getElem (by omega)]
        exact List.getElem_mem _
      rw [← hpath] at this
      obtain ⟨r, _, e⟩ := List.mem_map.mp this
      rw [hpath] at e
      rw [← e]; unfold vsOf; rw [List.length_map]
    have ep3 := sM _ _ ep
    wtm_at "go"
    rw [show (j : Int) + 1 = ((j + 1 : Nat) : Int) by omega]
    refine i_subL (rd_L eP) (atI_getD (j := j + 1) (d := []) vsD (by omega)) ?_
    wtm_at "go"
    refine i_subL (rd_L eP) (atI_getD (j := j) (d := []) vsD (by omega)) ?_
    wtm_at "go"
    refine ⟨p, l, ns, _, rfl, M.sub sM, hv1, ?_⟩
    intro na hna
    wtm_at "go"
    refine ⟨_, M', rd_of mput_same trivial, fun b o e => mput_new hna e, .inl hna, ?_⟩
    refine lcC_pure fstD ?_ trivial ?_ ?_
    · have := nextsL_len (ns := ns) (vs := path.getD j []) M.n3 M.ok
      exact sl (by rw [List.length_map]; omega)
    · intro d hd R2 hR2
      obtain ⟨u, hu, rfl⟩ := List.mem_map.mp hd
      refine ⟨rfl, rfl, rfl, ?_⟩
      wtm_at "go"
      try exact hR2
    intro p3 hp3
    rw [show (((nextsL ns (path.getD j [])).map pwD).map fstD) = ((nextsL ns (path.getD j [])).map (·.1)).map vsD by rw [List.map_map, List.map_map]; rfl]
    refine i_notin (in_vs (rd_L mput_same)) ?_
    cases hS : decide (path.getD (j + 1) [] ∈ (nextsL ns (path.getD j [])).map (·.1)) with
    | true =>
      wtm_at "go"
      refine hK _ _ ⟨j + 1, _, hj, er, rfl, sM.new hp3, mput_new hp3 eP, fun i hi => ?_⟩
      rcases Nat.lt_succ_iff_lt_or_eq.mp hi with h | rfl
      · exact hAll i h
      · exact hS
    | false =>
      have q := q _ (sM.new (o := .lst (((nextsL ns (path.getD j [])).map (·.1)).map vsD)) hp3)
      rw [show (List.range l.toNat).all (pathOk ns path) = false by
        rw [List.all_eq_false]
        exact ⟨j, List.mem_range.mpr (by omega), by rw [show pathOk ns path j = false from hS]; simp⟩] at q
      wtm_at "go"

/-! ### words, sign by sign -/
theorem foldl_cps {x : Array Nat} : ∀ (k : Nat) (acc : Array Nat), ((List.replicate k x).foldl (· ++ ·) acc).toList = acc.toList ++ (List.replicate k x.toList).flatten
  | 0, acc => by simp
  | k + 1, acc => by rw [List.replicate_succ, List.foldl_cons, foldl_cps k, List.replicate_succ, List.flatten_cons, Array.toList_append, List.append_assoc]
theorem q_cps : (Str.ofString "q").cps = #[113] := by decide +kernel
theorem mul_q {n : Int} (h : 0 ≤ n) : (Txt.mul "q" n).cps.toList = List.replicate n.toNat 113 := by
  unfold Txt.mul
  split
  · have : n = 0 := by omega
    subst this; rfl
  · split
    · rename_i h2
      have h3 : n = 1 := by
        have : (Str.ofString "q").length = 1 := by decide +kernel
        rw [this] at h2
        simpa using h2
      subst h3
      rw [q_cps]; rfl
    · rw [foldl_cps, q_cps]
      have : ∀ k : Nat, (List.replicate k [113]).flatten = List.replicate k 113 := by
        intro k
        induction k with
        | zero => rfl
        | succ k ih => rw [List.replicate_succ, List.flatten_cons, ih, List.replicate_succ]; rfl
      simp [this]
theorem app_cps {a b : Str} : (a ++ b).cps.toList = a.cps.toList ++ b.cps.toList := by
  show (a.cps ++ b.cps).toList = _
  rw [Array.toList_append]
theorem strOk_iff {x : Str} : PyData.strOk x = true ↔ ∀ c ∈ x.cps.toList, c < 0x110000 := by
  unfold PyData.strOk
  rw [← Array.all_toList, List.all_eq_true]
  simp only [decide_eq_true_eq]
theorem word_cps {s : Dr} (B : DrB s) {k : Int} (h : ¬ (s.talk = 1 ∧ k < 12)) : (wordOf s k).cps.toList = List.replicate s.place.toNat 113 ++ (97 + (k + s.turn) % 26).toNat :: List.replicate (s.size - s.place - 1).toNat 113 := by
  unfold wordOf
  have h1 := B.p0
  have h2 := B.p1
  rw [if_neg h, app_cps, app_cps, mul_q h1, mul_q (by omega)]
  show _ ++ [(97 + (k + s.turn) % 26).toNat] ++ _ = _
  rw [List.append_assoc]; rfl
theorem talk_ok : ∀ x ∈ talkWords, PyData.strOk x = true := by decide +kernel
theorem wordOf_ok {s : Dr} (B : DrB s) {k : Int} : PyData.strOk (wordOf s k) = true := by
  by_cases h : s.talk = 1 ∧ k < 12
  · unfold wordOf
    rw [if_pos h]
    cases e : talkWords[k.toNat]? with
    | none => show PyData.strOk "" = true; decide +kernel
    | some x => exact talk_ok x (List.mem_of_getElem? e)
  · rw [strOk_iff, word_cps B h]
    intro c hc
    have h1 : (k + s.turn) % 26 < 26 := Int.emod_lt_of_pos _ (by decide)
    have h2 : 0 ≤ (k + s.turn) % 26 := Int.emod_nonneg _ (by decide)
    rcases List.mem_append.mp hc with hc | hc
    · have := List.eq_of_mem_replicate hc; omega
    · rcases List.mem_cons.mp hc with hc | hc
      · omega
      · have := List.eq_of_mem_replicate hc; omega
theorem talk_nd : talkWords.Nodup := by decide +kernel
theorem wordOf_inj {s : Dr} (B : DrB s) {i j : Int} (i0 : 0 ≤ i) (i1 : i < 12) (j0 : 0 ≤ j) (j1 : j < 12) (e : wordOf s i = wordOf s j) : i = j := by
  by_cases h : s.talk = 1
  · unfold wordOf at e
    rw [if_pos ⟨h, i1⟩, if_pos ⟨h, j1⟩] at e
    have l : talkWords.length = 12 := rfl
    have hi : i.toNat < talkWords.length := by omega
    have hj : j.toNat < talkWords.length := by omega
    rw [List.getElem?_eq_getElem hi, List.getElem?_eq_getElem hj] at e
    have := (List.getElem_inj talk_nd (i := i.toNat) (j := j.toNat) (h₀ := hi) (h₁ := hj)).mp e
    omega
  · have e2 := congrArg (fun x : Str => x.cps.toList) e
    rw [word_cps B (fun z => h z.1), word_cps B (fun z => h z.1)] at e2
    have e3 := List.append_cancel_left e2
    have e4 := (List.cons.inj e3).1
    have h1 : (i + s.turn) % 26 < 26 := Int.emod_lt_of_pos _ (by decide)
    have h2 : 0 ≤ (i + s.turn) % 26 := Int.emod_nonneg _ (by decide)
    have h3 : (j + s.turn) % 26 < 26 := Int.emod_lt_of_pos _ (by decide)
    have h4 : 0 ≤ (j + s.turn) % 26 := Int.emod_nonneg _ (by decide)
    have e5 : (i + s.turn) % 26 = (j + s.turn) % 26 := by omega
    omega
theorem word_len {s : Dr} (B : DrB s) {k : Int} : (wordOf s k).length ≤ 10 := by
  by_cases h : s.talk = 1 ∧ k < 12
  · unfold wordOf
    rw [if_pos h]
    cases e : talkWords[k.toNat]? with
    | none => show (Str.ofString "").length ≤ 10; decide +kernel
    | some x =>
      have h2 : ∀ x ∈ talkWords, x.length ≤ 10 := by decide +kernel
      exact h2 x (List.mem_of_getElem? e)
  · have : (wordOf s k).length = (wordOf s k).cps.toList.length := by rw [Array.length_toList]; rfl
    rw [this, word_cps B h]
    have h1 := B.p0
    have h2 := B.p1
    have h3 := B.z1
    simp
    omega

/-! ### words of one to eight small letters -/
def Wd (x : Str) : Prop := 1 ≤ x.length ∧ x.length ≤ 8 ∧ ∀ c ∈ x.cps.toList, c ∈ smallCps
/-! ### what is drawn is none to refuse -/
theorem small_mem {n : Nat} (h0 : 97 ≤ n) (h1 : n < 123) : n ∈ smallCps := by
  have h : ∀ k < 26, 97 + k ∈ smallCps := by decide +kernel
  have := h (n - 97) (by omega)
  rwa [show 97 + (n - 97) = n by omega] at this
theorem talk_wd : ∀ x ∈ talkWords, Wd x := by unfold Wd; decide +kernel
theorem word_wd {s : Dr} (B : DrB s) {k : Int} (k0 : 0 ≤ k) : Wd (wordOf s k) := by
  by_cases h : s.talk = 1 ∧ k < 12
  · have e : wordOf s k = (talkWords[k.toNat]?).getD "" := if_pos h
    have hl : k.toNat < talkWords.length := by show _ < 12; omega
    rw [e, List.getElem?_eq_getElem hl]
    exact talk_wd _ (List.getElem_mem hl)
  · have hc := word_cps B h
    have z0 := B.z0
    have z1 := B.z1
    have p0 := B.p0
    have p1 := B.p1
    have h1 : (k + s.turn) % 26 < 26 := Int.emod_lt_of_pos _ (by decide)
    have h2 : 0 ≤ (k + s.turn) % 26 := Int.emod_nonneg _ (by decide)
    have hl : (wordOf s k).length = (wordOf s k).cps.toList.length := (Array.length_toList).symm
    rw [hc, List.length_append, List.length_cons, List.length_replicate, List.length_replicate] at hl
    refine ⟨by omega, by omega, fun c hcm => ?_⟩
    rw [hc] at hcm
    rcases List.mem_append.mp hcm with hcm | hcm
    · have := List.eq_of_mem_replicate hcm
      exact small_mem (by omega) (by omega)
    · rcases List.mem_cons.mp hcm with hcm | hcm
      · exact small_mem (by omega) (by omega)
      · have := List.eq_of_mem_replicate hcm
        exact small_mem (by omega) (by omega)

theorem wordOf_nx {s s' : Dr} (n : s.nx s') : wordOf s' = wordOf s := by
  obtain ⟨_, _, h1, h2, h3, h4, _⟩ := n
  funext k
  unfold wordOf
  rw [h1, h2, h3, h4]

local macro_rules | `(tactic| wtm_at "dec") => `(tactic| (simp; omega))
local macro_rules | `(tactic| wtm_at "dec") => `(tactic| (simp [isTy, isiB]; done))
local macro_rules | `(tactic| wtm_at "dec") => `(tactic| first | with_reducible rfl | (simp only [isN, ofString_inj, decide_eq_true_eq, decide_eq_false_iff_not, String.reduceEq, reduceCtorEq, not_false_eq_true, decide_true, decide_false, Bool.not_true, Bool.not_false, Bool.not_eq_true', Bool.not_eq_false', Int.reduceLT, Int.reduceLE, Int.reduceEq]; done) | (decide) | (simp; done) | fail)
local macro_rules | `(tactic| wtm_at "one") => `(tactic| first | (with_reducible refine gMust_in ?_) | ((with_reducible apply i_isiK); (focus assumption); (focus decide)))
local macro_rules | `(tactic| wtm_at "kdt") => `(tactic| (repeat' first | with_reducible assumption | with_reducible exact kdA_nil | with_reducible refine kdA_cons ?_ ?_ | with_reducible refine kdA_app ?_ ?_ | with_reducible exact Kd.non | with_reducible exact Kd.int _ | with_reducible exact Kd.bl _ | with_reducible exact kd_tup0 | ((with_reducible refine kd_tup ?_ ?_); (focus rfl)) | (refine Kd.str _ ?_ ?_ <;> decide +kernel)))
local macro_rules | `(tactic| wtm_at "mem") => `(tactic| with_reducible first | assumption | exact mput_same | (apply DrI.e; assumption) | (apply DrI.rd; assumption) | (apply mput_new; assumption; wtm_at "mem") | (apply mput_off; assumption; wtm_at "mem") | (apply mput_off'; assumption; wtm_at "mem") | (apply rd_K; wtm_at "mem") | (apply rd_L; wtm_at "mem") | (apply rd_T; wtm_at "mem") | (apply rd_I; wtm_at "mem") | (apply rd_frz; wtm_at "mem") | fail)
/-! ### markets that are drawn -/
/-- a drawing has gone on: but for the draw all stays -/
structure DM (K : PySem.W.Frag) (a : Addr) (s : Dr) (m : Mem) (s' : Dr) (M : Mem) : Prop where
  I : DrI K M a s'
  n : s.nx s'
  x : SubX a m M
theorem DM.start {K : PySem.W.Frag} {a : Addr} {s : Dr} {m : Mem} (I : DrI K m a s) : DM K a s m s m := ⟨I, Dr.nx_refl, SubX.refl⟩
theorem DM.trans {K : PySem.W.Frag} {a : Addr} {s s1 s2 : Dr} {m m1 m2 : Mem} (h : DM K a s m s1 m1) (k : DM K a s1 m1 s2 m2) : DM K a s m s2 m2 := ⟨k.I, Dr.nx_trans h.n k.n, h.x.trans k.x⟩
theorem DM.new {K : PySem.W.Frag} {a p : Addr} {s s1 : Dr} {m m1 : Mem} {o : O} (h : DM K a s m s1 m1) (hp : m1 p = none) : DM K a s m s1 (mput m1 p o) := ⟨h.I.new hp, h.n, fun b u e ne => mput_new hp (h.x b u e ne)⟩
/-- what is new may be written -/
theorem DM.put {K : PySem.W.Frag} {a p : Addr} {s s1 : Dr} {m m1 : Mem} {o : O} (h : DM K a s m s1 m1) (I0 : DrI K m a s) (np : m p = none) (ne : p ≠ a) : DM K a s m s1 (mput m1 p o) := by
  have x := h.x.put (o := o) np
  refine ⟨?_, h.n, x⟩
  obtain ⟨ns, l, z⟩ := I0.sc
  refine ⟨(mput_ne ne.symm).trans h.I.e, ⟨ns, ?_, z⟩, h.I.at0, h.I.rest0, h.I.mix0, h.I.mix1⟩
  rw [h.n.1]
  rcases l with l | l
  · exact .inl (x.rd l fun ds z => by rw [I0.rd] at z; cases z)
  · exact .inr l
theorem DM.taken {K : PySem.W.Frag} {a : Addr} {s s1 s2 : Dr} {m m1 : Mem} (h : DM K a s m s1 m1) (n : s1.nx s2) (I : DrI K (mput m1 a s2.o) a s2) : DM K a s m s2 (mput m1 a s2.o) := ⟨I, Dr.nx_trans h.n n, h.x.trans SubX.here⟩
theorem SubX.none {p q : Addr} {m M : Mem} (x : SubX p m M) (e : M q = none) (h : q ≠ p) : m q = none := by
  cases z : m q with
  | none => rfl
  | some o => rw [x _ _ z h] at e; cases e
theorem spTaken.dm {K : PySem.W.Frag} {a : Addr} {s s1 : Dr} {m M : Mem} {Q : KM} {Em : XM} {k : Int} (h : DM K a s m s1 M) (h0 : 0 < k) (h1 : k ≤ 10 ^ 13) (q : ∀ r s2 M2, 0 ≤ r → r < k → DM K a s m s2 M2 → SubX a M M2 → Q (.int r) M2) : spTaken K [.ref a, .int k] M Q Em :=
  spTaken.mk h.I h0 h1 fun r s2 r0 r1 n I => q r s2 _ r0 r1 (h.taken n I) SubX.here
theorem wordOf_nx' {s s' : Dr} (n : s.nx s') : wordOf s' = wordOf s := wordOf_nx n
def stD (st : List (Int × Int)) : List D := st.map fun s => .tup [.int s.1, .int s.2]
/-- drawn steps -/
structure StOk (st : List (Int × Int)) : Prop where
  s1 : 1 ≤ st.length
  s4 : st.length ≤ 4
  sb : ∀ s ∈ st, (-3 ≤ s.1 ∧ s.1 ≤ 3) ∧ 1 ≤ s.2 ∧ s.2 ≤ 999
  nd : (st.map (·.1)).Nodup
def spSteps (K : PySem.W.Frag) : SpM := fun ds m Q _ => ∃ (a : Addr) (s : Dr), ds = [.ref a] ∧ DrI K m a s ∧ ∀ q st s' M, DM K a s m s' M → m q = none → M q = some (.lst (stD st)) → StOk st → Q (.ref q) M
abbrev s__law_steps : Stmt := topS 23
theorem sc__law_steps : FnScope ["_law_s", "_law_steps_here", "_law_k", "_law_by", "_law_step"] ["_law_s"] (defScope s__law_steps) := ⟨rfl, rfl, rfl, by decide +kernel, rfl, by decide +kernel, by decide +kernel⟩
theorem ok_law_steps {k : Nat} (Z : Bl mg) {f__law_taken : Addr} {fd__law_taken : FuncData} (D__law_taken : Df K mg "_law_taken" f__law_taken fd__law_taken ["_law_s", "_law_most"]) (G__law_taken : FnM P w K mg base CX0 (k) f__law_taken fd__law_taken ["_law_s", "_law_most"] (spTaken K)) {f__law_steps : Addr} {fd__law_steps : FuncData} (F : Fun K "_law_steps" "_law_steps" s__law_steps f__law_steps fd__law_steps) : FnM P w K mg base CX0 (k + 1) f__law_steps fd__law_steps ["_law_s"] (spSteps K) := by
  refine fn_m F sc__law_steps (fun ds m Q E h => ?_) (fun cdv A outer s H ds m Q E E' hr h => ?_)
  · obtain ⟨a, s, rfl, _⟩ := h; rfl
  have nd := sc__law_steps.nd
  obtain ⟨a, s, rfl, I, q⟩ := h
  refine ⟨_, (mss_cons (ms_set (i := 1) nd rfl (.inl rfl) (mx_lst ma_nil))
    (mss_cons (ms_for PassesOwn.never rfl (mi_range1 Z.b_range (ma_cons (mx_op mo_plus mx_int (mx_call (Em := noX) G__law_taken hr D__law_taken.m D__law_taken.k D__law_taken.b pass0M (ma_cons (mv 0) (ma_cons mx_int ma_nil)))) ma_nil)) (mg_name (i := 2) nd rfl (.inl rfl)) (mss_cons (ms_set (i := 3) nd rfl (.inl rfl) (mx_op mo_sub (mx_call (Em := noX) G__law_taken hr D__law_taken.m D__law_taken.k D__law_taken.b pass0M (ma_cons (mv 0) (ma_cons mx_int ma_nil))) mx_int))
    (mss_one (ms_if (mt_cmp (mo_notin hr) (mv 3) (mx_lc (own := [("_law_step", 4)]) rfl nd (mi_list (mv 1)) (blkOk_by (by show blkC ["_law_s", "_law_steps_here", "_law_k", "_law_by", "_law_step"] (defScope s__law_steps) _ _ = true; decide +kernel)) (fun _ _ _ _ _ => (pg_name (i := 4) nd rfl (Or.inl rfl))) (gok_name (i := 4) (by decide)) (fun _ _ _ _ _ => mts_nil) (fun _ _ _ _ _ => (mx_ix (mi_sub hr) (mv 4) mx_int))) rfl) (mss_one (ms_expr (mx_append (mv 1) (mx_tup (ma_cons (mv 3) (ma_cons (mx_op mo_plus mx_int (mx_call (Em := noX) G__law_taken hr D__law_taken.m D__law_taken.k D__law_taken.b pass0M (ma_cons (mv 0) (ma_cons mx_int ma_nil)))) ma_nil)))))) mss_nil))))
    (mss_one (ms_ret (mv 1))))), ?_⟩
  wtm_at "go"
  intro p hp
  have D0 := (DM.start I).new (o := .lst []) hp
  have npa : p ≠ a := by rintro rfl; rw [I.e] at hp; cases hp
  have e0 : mput m p (.lst []) p = some (.lst []) := mput_same
  generalize mput m p (.lst []) = M0 at D0 e0 ⊢
  wtm_at "go"
  refine spTaken.dm D0 (by decide) (by decide) fun r s1 M1 r0 r1 D1 x1 => ?_
  have e1 := x1 _ _ e0 npa
  wtm_at "go"
  refine ⟨by omega, by omega, ?_⟩
  obtain ⟨n, hn⟩ : ∃ n : Nat, (1 + r).toNat = n := ⟨_, rfl⟩
  rw [hn]
  have hn1 : 1 ≤ n := by omega
  have hn4 : n ≤ 4 := by omega
  refine forC_ind (fun rest ρ M => ∃ (j : Nat) (st : List (Int × Int)) (s' : Dr) (e2 e3 e4 : Option D), j ≤ n ∧ rest = (rangeD 0 n).drop j ∧ ρ = [some (.ref a), some (.ref p), e2, e3, e4] ∧ DM K a s m s' M ∧ M p = some (.lst (stD st)) ∧ st.length ≤ j ∧ (0 < j → 1 ≤ st.length) ∧ (∀ s ∈ st, (-3 ≤ s.1 ∧ s.1 ≤ 3) ∧ 1 ≤ s.2 ∧ s.2 ≤ 999) ∧ (st.map (·.1)).Nodup) ⟨0, [], s1, none, none, none, Nat.zero_le _, rfl, rfl, D1, e1, Nat.le_refl _, (fun h => absurd h (by omega)), (fun _ h => nomatch h), .nil⟩ ?_ ?_
  · rintro ρ M ⟨j, st, s', e2, e3, e4, hj, er, rfl, D', ep, l1, l2, l3, l4⟩
    obtain rfl := rangeD_nil er hj
    refine ⟨trivial, ?_⟩
    wtm_at "go"
    exact RtM.mk (q _ st s' M D' hp ep ⟨l2 hn1, by omega, l3, l4⟩)
  · rintro d rest ρ M K2 hK ⟨j, st, s', e2, e3, e4, hj, er, rfl, D', ep, l1, l2, l3, l4⟩
    obtain ⟨rfl, er, hj⟩ := rangeD_drop er
    refine ⟨trivial, ?_⟩
    wtm_at "go"
    refine spTaken.dm D' (by decide) (by decide) fun v s2 M2 v0 v1 D2 x2 => ?_
    have ep2 := x2 _ _ ep npa
    have ep2r := rd_L ep2
    wtm_at "go"
    refine ⟨_, ep2r, ?_⟩
    refine lcC_pure (fun d => match d with | .tup (x :: _) => x | _ => .non) (sl (by unfold stD; rw [List.length_map]; omega)) ep2r ?_ ?_
    · intro d hd R hR
      obtain ⟨u, hu, rfl⟩ := List.mem_map.mp hd
      refine ⟨rfl, ?_⟩
      wtm_at "go"
    intro p3 hp3
    have D3 := D2.new (o := .lst ((stD st).map fun d => match d with | .tup (x :: _) => x | _ => .non)) hp3
    have ep3 := mput_new (o := .lst ((stD st).map fun d => match d with | .tup (x :: _) => x | _ => .non)) hp3 ep2
    have e3 : mput M2 p3 (.lst ((stD st).map fun d => match d with | .tup (x :: _) => x | _ => .non)) p3 = some (.lst ((st.map (·.1)).map .int)) := by rw [mput_same]; unfold stD; rw [List.map_map, List.map_map]; rfl
    generalize mput M2 p3 (.lst ((stD st).map fun d => match d with | .tup (x :: _) => x | _ => .non)) = M3 at D3 ep3 e3 ⊢
    refine i_notin (in_lst (rd_L e3) rfl (by simp [flD])) ?_
    rw [any_ints]
    wtm_at "go"
    by_cases hv : v - 3 ∈ st.map (·.1)
    · rw [decide_eq_true hv]
      wtm_at "go"
      refine hK _ _ ⟨j + 1, st, s2, _, _, _, hj, er, rfl, D3, ep3, by omega, fun _ => ?_, l3, l4⟩
      cases st with
      | nil => cases hv
      | cons _ _ => simp
    · rw [decide_eq_false hv]
      wtm_at "go"
      refine ⟨⟨_, rd_L ep3⟩, ?_⟩
      wtm_at "go"
      refine spTaken.dm D3 (by decide) (by decide) fun w s4 M4 w0 w1 D4 x4 => ?_
      have ep4 := x4 _ _ ep3 npa
      wtm_at "go"
      refine ⟨_, ep4, small1000 (by unfold stD; rw [List.length_map]; omega), ?_⟩
      refine hK _ _ ⟨j + 1, st ++ [(v - 3, 1 + w)], s4, _, _, _, hj, er, rfl, D4.put I hp npa, by rw [mput_same]; simp [stD], by simp; omega, fun _ => by simp, fun u hu => ?_, ?_⟩
      · rcases List.mem_append.mp hu with hu | hu
        · exact l3 u hu
        · rw [List.mem_singleton.mp hu]; exact ⟨⟨by show -3 ≤ v - 3; omega, by show v - 3 ≤ 3; omega⟩, by show 1 ≤ 1 + w; omega, by show 1 + w ≤ 999; omega⟩
      · rw [List.map_append, List.nodup_append]
        refine ⟨l4, by simp, fun x hx y hy => ?_⟩
        rw [List.map_singleton, List.mem_singleton] at hy
        have hy : y = v - 3 := hy
        rintro rfl
        exact hv (hy ▸ hx)
theorem okWord_wd {x : Str} (h : Wd x) : okWord (.str x) = true := decide_eq_true h
/-- how a name is handed in, anew -/
def ArgW (L : Addr) (m M : Mem) (d : D) (n : Nx) : Prop := ∃ sp, d = .tup [.str n.w, .int n.b, .ref sp] ∧ M sp = some (.lst n.sd) ∧ m sp = none ∧ sp ≠ L
theorem ArgW.x {L : Addr} {m M N : Mem} {a : Addr} {d : D} {n : Nx} (x : SubX a M N) (e : ∀ ds, M a ≠ some (.lst ds)) (h : ArgW L m M d n) : ArgW L m N d n := by
  obtain ⟨sp, h1, h2, h3⟩ := h
  exact ⟨sp, h1, x _ _ h2 (by rintro rfl; exact e _ h2), h3⟩
/-- where a name's steps stand -/
def spA (d : D) : Option Addr := match d with
  | .tup [_, _, .ref q] => some q
  | _ => none
theorem argW_spA {L : Addr} {m M : Mem} {ds : List D} {ns : List Nx} (h : Two (ArgW L m M) ds ns) {q : Addr} (hq : M q = none) : some q ∉ ds.map spA := by
  induction h with
  | nil => simp
  | cons h _ ih =>
    intro z
    rcases List.mem_cons.mp z with z | z
    · obtain ⟨sp, h1, h2, _⟩ := h
      rw [h1] at z
      cases z
      rw [hq] at h2; cases h2
    · exact ih z
theorem nd_snoc {α : Type} {l : List α} {x : α} (h : l.Nodup) (k : x ∉ l) : (l ++ [x]).Nodup := by
  rw [List.nodup_append]
  exact ⟨h, by simp, fun a ha b hb => by rw [List.mem_singleton.mp hb]; rintro rfl; exact k ha⟩
/-- how many hours there may be -/
def mkLim : Nat → Int
  | 0 => 9
  | 1 => 5
  | 2 => 3
  | _ => 2
def spMarket (K : PySem.W.Frag) : SpM := fun ds m Q _ => ∃ (a : Addr) (s : Dr) (many : Nat), ds = [.ref a, .int many] ∧ many ≤ 3 ∧ DrI K m a s ∧ DrB s ∧
  ∀ l ns L ds s' M, DM K a s m s' M → m L = none → M L = some (.lst ds) → Two (ArgW L m M) ds ns → ns.length = many → (∀ n ∈ ns, n.Ok ∧ StOk n.st ∧ -999999999900 ≤ n.b ∧ n.b ≤ 999999999900) → ns.map (·.w) = (List.range many).map (fun k : Nat => wordOf s (8 + (k : Int))) → 0 ≤ l → l ≤ 8 → l < mkLim many → (ds.map spA).Nodup → Q (.tup [.int l, .ref L]) M
abbrev s__law_market : Stmt := topS 24
theorem sc__law_market : FnScope ["_law_s", "_law_many", "_law_names", "_law_k", "_law_begun_here"] ["_law_s", "_law_many"] (defScope s__law_market) := ⟨rfl, rfl, rfl, by decide +kernel, rfl, by decide +kernel, by decide +kernel⟩
theorem ok_law_market {k : Nat} (Z : Bl mg) {f__law_taken : Addr} {fd__law_taken : FuncData} (D__law_taken : Df K mg "_law_taken" f__law_taken fd__law_taken ["_law_s", "_law_most"]) (G__law_taken : FnM P w K mg base CX0 (k) f__law_taken fd__law_taken ["_law_s", "_law_most"] (spTaken K)) {f__law_number : Addr} {fd__law_number : FuncData} (D__law_number : Df K mg "_law_number" f__law_number fd__law_number ["_law_s"]) (G__law_number : FnM P w K mg base CX0 (k) f__law_number fd__law_number ["_law_s"] (spNumber K)) {f__law_word : Addr} {fd__law_word : FuncData} (D__law_word : Df K mg "_law_word" f__law_word fd__law_word ["_law_s", "_law_k"]) (G__law_word : FnM P w K mg base CX0 (k) f__law_word fd__law_word ["_law_s", "_law_k"] (spWord K)) {f__law_steps : Addr} {fd__law_steps : FuncData} (D__law_steps : Df K mg "_law_steps" f__law_steps fd__law_steps ["_law_s"]) (G__law_steps : FnM P w K mg base CX0 (k) f__law_steps fd__law_steps ["_law_s"] (spSteps K)) {f__law_market : Addr} {fd__law_market : FuncData} (F : Fun K "_law_market" "_law_market" s__law_market f__law_market fd__law_market) : FnM P w K mg base CX0 (k + 1) f__law_market fd__law_market ["_law_s", "_law_many"] (spMarket K) := by
  refine fn_m F sc__law_market (fun ds m Q E h => ?_) (fun cdv A outer s H ds m Q E E' hr h => ?_)
  · obtain ⟨a, s, many, rfl, _⟩ := h; rfl
  have nd := sc__law_market.nd
  obtain ⟨a, s, many, rfl, hm, I, B, q⟩ := h
  refine ⟨_, (mss_cons (ms_set (i := 2) nd rfl (.inl rfl) (mx_lst ma_nil))
    (mss_cons (ms_for PassesOwn.never rfl (mi_range1 Z.b_range (ma_cons (mv 1) ma_nil)) (mg_name (i := 3) nd rfl (.inl rfl)) (mss_cons (ms_set (i := 4) nd rfl (.inl rfl) (mx_callB mc_max2 Z.b_max (ma_cons (mx_op mo_sub mx_int (mx_op mo_pow mx_int mx_int)) (ma_cons (mx_callB mc_min2 Z.b_min (ma_cons (mx_op mo_sub (mx_op mo_pow mx_int mx_int) mx_int) (ma_cons (mx_call (Em := noX) G__law_number hr D__law_number.m D__law_number.k D__law_number.b pass0M (ma_cons (mv 0) ma_nil)) ma_nil))) ma_nil))))
    (mss_one (ms_expr (mx_append (mv 2) (mx_tup (ma_cons (mx_call (Em := noX) G__law_word hr D__law_word.m D__law_word.k D__law_word.b pass0M (ma_cons (mv 0) (ma_cons (mx_op mo_plus mx_int (mv 3)) ma_nil))) (ma_cons (mv 4) (ma_cons (mx_call (Em := noX) G__law_steps hr D__law_steps.m D__law_steps.k D__law_steps.b pass0M (ma_cons (mv 0) ma_nil)) ma_nil)))))))))
    (mss_one (ms_ret (mx_tup (ma_cons (mx_call (Em := noX) G__law_taken hr D__law_taken.m D__law_taken.k D__law_taken.b pass0M (ma_cons (mv 0) (ma_cons (mx_ix (mi_sub hr) (mx_lst (ma_cons mx_int (ma_cons mx_int (ma_cons mx_int (ma_cons mx_int ma_nil))))) (mv 1)) ma_nil))) (ma_cons (mv 2) ma_nil))))))), ?_⟩
  wtm_at "go"
  intro p hp
  have D0 := (DM.start I).new (o := .lst []) hp
  have npa : p ≠ a := by rintro rfl; rw [I.e] at hp; cases hp
  have e0 : mput m p (.lst []) p = some (.lst []) := mput_same
  generalize mput m p (.lst []) = M0 at D0 e0 ⊢
  wtm_at "go"
  refine ⟨by omega, by omega, ?_⟩
  rw [Int.toNat_natCast]
  refine forC_ind (fun rest ρ M => ∃ (j : Nat) (ns : List Nx) (ds : List D) (s' : Dr) (e3 e4 : Option D), j ≤ many ∧ rest = (rangeD 0 many).drop j ∧ ρ = [some (.ref a), some (.int many), some (.ref p), e3, e4] ∧ DM K a s m s' M ∧ M p = some (.lst ds) ∧ Two (ArgW p m M) ds ns ∧ ns.length = j ∧ (∀ n ∈ ns, n.Ok ∧ StOk n.st ∧ -999999999900 ≤ n.b ∧ n.b ≤ 999999999900) ∧ ns.map (·.w) = (List.range j).map (fun k : Nat => wordOf s (8 + (k : Int))) ∧ (ds.map spA).Nodup) ⟨0, [], [], s, none, none, Nat.zero_le _, rfl, rfl, D0, e0, .nil, rfl, (fun _ h => nomatch h), rfl, .nil⟩ ?_ ?_
  · rintro ρ M ⟨j, ns, ds, s', e3, e4, hj, er, rfl, D', ep, tw, hl, hok, hw, hsd⟩
    obtain rfl := rangeD_nil er hj
    refine ⟨trivial, ?_⟩
    wtm_at "go"
    intro p2 hp2
    have D2 := D'.new (o := .lst [.int 9, .int 5, .int 3, .int 2]) hp2
    have ep2 := mput_new (o := .lst [.int 9, .int 5, .int 3, .int 2]) hp2 ep
    have tw2 : Two (ArgW p m (mput M p2 (.lst [.int 9, .int 5, .int 3, .int 2]))) ds ns := two_mono tw fun d n _ ⟨sp, h1, h2, h3⟩ => ⟨sp, h1, mput_new hp2 h2, h3⟩
    have e2 : mput M p2 (.lst [.int 9, .int 5, .int 3, .int 2]) p2 = _ := mput_same
    generalize mput M p2 (.lst [.int 9, .int 5, .int 3, .int 2]) = M2 at D2 ep2 tw2 e2 ⊢
    wtm_at "go"
    obtain ⟨v, hv, v0, v1, v2⟩ : ∃ v : Int, atI [D.int 9, .int 5, .int 3, .int 2] (j : Int) = some (.int v) ∧ 0 < v ∧ v ≤ 9 ∧ v ≤ mkLim j := by
      have : j = 0 ∨ j = 1 ∨ j = 2 ∨ j = 3 := by omega
      rcases this with rfl | rfl | rfl | rfl
      · exact ⟨9, rfl, by decide, by decide, by decide⟩
      · exact ⟨5, rfl, by decide, by decide, by decide⟩
      · exact ⟨3, rfl, by decide, by decide, by decide⟩
      · exact ⟨2, rfl, by decide, by decide, by decide⟩
    refine i_subL (rd_L e2) hv ?_
    wtm_at "go"
    refine spTaken.dm D2 v0 (by omega) fun r s3 M3 r0 r1 D3 x3 => ?_
    wtm_at "go"
    exact RtM.mk (q _ _ _ _ _ _ D3 hp (x3 _ _ ep2 npa) (two_mono tw2 fun d n _ h => h.x x3 fun ds z => by rw [D2.I.e] at z; cases z) hl hok hw r0 (by omega) (by omega) hsd)
  · rintro d rest ρ M K2 hK ⟨j, ns, ds, s', e3, e4, hj, er, rfl, D', ep, tw, hl, hok, hw, hsd⟩
    obtain ⟨rfl, er, hj⟩ := rangeD_drop er
    refine ⟨trivial, ?_⟩
    wtm_at "go"
    refine ⟨a, s', rfl, D'.I, fun v s2 hv n2 I2 => ?_⟩
    have D2 := D'.taken n2 I2
    have x2 : SubX a M (mput M a s2.o) := SubX.here
    generalize mput M a s2.o = M2 at D2 x2 I2 ⊢
    have ep2 := x2 _ _ ep npa
    have tw2 : Two (ArgW p m M2) ds ns := two_mono tw fun d n _ h => h.x x2 fun ds z => by rw [D'.I.e] at z; cases z
    wtm_at "go"
    refine ⟨⟨_, rd_L ep2⟩, ?_⟩
    wtm_at "go"
    have B2 := B.nx D2.n
    refine ⟨a, s2, 8 + (j : Int), rfl, I2.rd, B2, by omega, ?_⟩
    wtm_at "go"
    refine ⟨a, s2, rfl, I2, fun qa st s4 M4 D4 nq eq hst => ?_⟩
    have D24 := D2.trans D4
    have ep4 := D4.x _ _ ep2 npa
    have tw4 : Two (ArgW p m M4) ds ns := two_mono tw2 fun d n _ h => h.x D4.x fun ds z => by rw [I2.e] at z; cases z
    have nqa : qa ≠ a := by rintro rfl; rw [I2.e] at nq; cases nq
    have nqm : m qa = none := D2.x.none nq nqa
    have nqp : qa ≠ p := by rintro rfl; rw [ep2] at nq; cases nq
    wtm_at "go"
    have hdl := Paired.length tw
    refine ⟨_, ep4, small1000 (by omega), ?_⟩
    have hwd : wordOf s2 (8 + (j : Int)) = wordOf s (8 + (j : Int)) := congrFun (wordOf_nx' D2.n) _
    have hword : okWord (.str (wordOf s (8 + (j : Int)))) = true := okWord_wd (word_wd B (by omega))
    obtain ⟨b, hb, b0, b1⟩ : ∃ b : Int, b = (if (if v < 999999999900 then v else 999999999900) > -999999999900 then (if v < 999999999900 then v else 999999999900) else -999999999900) ∧ -999999999900 ≤ b ∧ b ≤ 999999999900 := ⟨_, rfl, by split <;> (try split) <;> omega, by split <;> (try split) <;> omega⟩
    refine hK _ _ ⟨j + 1, ns ++ [⟨wordOf s (8 + (j : Int)), b, st⟩], ds ++ [_], s4, _, _, hj, er, rfl, D24.put I hp npa, mput_same, two_snoc (two_mono tw4 fun d n _ ⟨sp, h1, h2, h3⟩ => ⟨sp, h1, (mput_ne h3.2).trans h2, h3⟩) ⟨qa, ?_, (mput_ne nqp).trans eq, nqm, nqp⟩, by simp [hl], fun n hn => ?_, ?_, by rw [List.map_append]; exact nd_snoc hsd (argW_spA tw2 nq)⟩
    · rw [hwd, hb, show (10 : Int) ^ Int.toNat 12 - 100 = 999999999900 by decide, show (100 : Int) - 10 ^ Int.toNat 12 = -999999999900 by decide]
    · rcases List.mem_append.mp hn with hn | hn
      · exact hok n hn
      · rw [List.mem_singleton.mp hn]
        exact ⟨⟨hword, by show 1 - 1000000000000 ≤ b; omega, by show b ≤ 1000000000000 - 1; omega, hst.s1, hst.s4, fun u hu => by have := hst.sb u hu; omega, hst.nd⟩, hst, b0, b1⟩
    · rw [List.map_append, hw, List.range_succ, List.map_append]; rfl
theorem ArgW.arg {L : Addr} {m M : Mem} {d : D} {n : Nx} (h : ArgW L m M d n) : ArgN M d n := let ⟨sp, h1, h2, _⟩ := h; ⟨sp, h1, rd_L h2⟩

/-! ### a good market is none to refuse -/
theorem okWord_str' {x : Str} (h : okWord (.str x) = true) : x.length ≤ 8 ∧ PyData.strOk x = true := by
  have h := of_decide_eq_true h
  refine ⟨h.2.1, ?_⟩
  show x.cps.all (· < 0x110000) = true
  rw [← Array.all_toList, List.all_eq_true]
  intro c hc
  have hs : ∀ c ∈ smallCps, c < 0x110000 := by decide +kernel
  exact decide_eq_true (hs c (h.2.2 c hc))
theorem okSteps_to : ∀ {st : List (Int × Int)} {seen : List Int}, (∀ s ∈ st, (1 - 1000000000000 ≤ s.1 ∧ s.1 ≤ 1000000000000 - 1) ∧ 1 ≤ s.2 ∧ s.2 ≤ 999) → (st.map (·.1)).Nodup → (∀ s ∈ st, s.1 ∉ seen) → okSteps seen (st.map fun s => .tup [.int s.1, .int s.2]) = true
  | [], _, _, _, _ => rfl
  | s :: r, seen, h, n, d => by
    rw [List.map_cons, List.nodup_cons] at n
    have h1 := h s (.head _)
    have hb : okStep (.tup [.int s.1, .int s.2]) = true := by
      simp only [okStep, okNum, Bool.and_eq_true, decide_eq_true_eq]
      exact ⟨h1.1, h1.2⟩
    have ih := okSteps_to (st := r) (seen := seen ++ [s.1]) (fun u hu => h u (.tail _ hu)) n.2 fun u hu => by
      rw [List.mem_append, not_or]
      refine ⟨d u (.tail _ hu), fun z => n.1 ?_⟩
      rw [List.mem_singleton] at z
      exact List.mem_map.mpr ⟨u, hu, z⟩
    rw [List.map_cons, okSteps, hb]
    have hd : s.1 ∉ seen := d s (.head _)
    simp only [byOf, hd, decide_false, Bool.not_false, Bool.true_and]
    exact ih
theorem okNm_to {m : Mem} {d : D} {n : Nx} (h : ArgN m d n) (ok : n.Ok) : okNm m d = true ∧ nameOf d = n.w := by
  obtain ⟨sp, rfl, e⟩ := h
  refine ⟨?_, rfl⟩
  have hs := okSteps_to ok.sb ok.nd (seen := []) (by simp)
  have hl : n.sd.length = n.st.length := List.length_map _
  have s1 := ok.s1
  have s4 := ok.s4
  simp only [okNm, okStepsD, e, ok.w, okNum, Bool.and_eq_true, decide_eq_true_eq, Bool.true_and]
  exact ⟨⟨ok.b0, ok.b1⟩, ⟨by omega, by omega⟩, hs⟩
theorem okNms_to {m : Mem} {ds : List D} {ns : List Nx} (h : Two (ArgN m) ds ns) : ∀ {seen : List Str}, (∀ n ∈ ns, n.Ok) → (ns.map (·.w)).Nodup → (∀ n ∈ ns, n.w ∉ seen) → okNms m seen ds = true := by
  induction h with
  | nil => intro seen _ _ _; rfl
  | @cons d n ds ns h _ ih =>
    intro seen ok nd hs
    rw [List.map_cons, List.nodup_cons] at nd
    obtain ⟨h1, h2⟩ := okNm_to h (ok n (.head _))
    have := ih (seen := seen ++ [n.w]) (fun u hu => ok u (.tail _ hu)) nd.2 fun u hu => by
      rw [List.mem_append, not_or]
      refine ⟨hs u (.tail _ hu), fun z => nd.1 ?_⟩
      rw [List.mem_singleton] at z
      exact List.mem_map.mpr ⟨u, hu, z⟩
    rw [okNms, h1, h2]
    have hd : n.w ∉ seen := hs n (.head _)
    simp only [hd, decide_false, Bool.not_false, Bool.true_and]
    exact this
theorem okMk_to {m : Mem} {a : Addr} {ds : List D} {ns : List Nx} {l : Int} (e : rdM m a = some (.lst ds)) (h : Two (ArgN m) ds ns) (ok : ∀ n ∈ ns, n.Ok) (nd : (ns.map (·.w)).Nodup) (n3 : ns.length ≤ 3) (l0 : 0 ≤ l) (l1 : l ≤ 12) : okMk m (.int l) (.ref a) = true := by
  have hl := Paired.length h
  have hn := okNms_to h (seen := []) ok nd (by simp)
  simp only [okMk, e, okNum, Bool.and_eq_true, decide_eq_true_eq]
  exact ⟨⟨l0, l1⟩, by omega, hn⟩
theorem kd_steps {m : Mem} {a : Addr} {st : List (Int × Int)} (e : rdM m a = some (.lst (st.map fun s => .tup [.int s.1, .int s.2]))) : Kd m (.ref a) := .lst e fun d hd => by
  obtain ⟨s, _, rfl⟩ := List.mem_map.mp hd
  exact kd_tup rfl (kdA_cons (.int _) (kdA_cons (.int _) kdA_nil))
theorem kd_name {m : Mem} {d : D} {n : Nx} (h : ArgN m d n) (ok : n.Ok) : Kd m d := by
  obtain ⟨sp, rfl, e⟩ := h
  obtain ⟨h1, h2⟩ := okWord_str' ok.w
  exact kd_tup rfl (kdA_cons (.str _ (by omega) h2) (kdA_cons (.int _) (kdA_cons (kd_steps e) kdA_nil)))
theorem kd_names {m : Mem} {a : Addr} {ds : List D} {ns : List Nx} (e : rdM m a = some (.lst ds)) (h : Two (ArgN m) ds ns) (ok : ∀ n ∈ ns, n.Ok) : Kd m (.ref a) := .lst e fun d hd => by
  obtain ⟨n, hn, r⟩ := two_mem h hd
  exact kd_name r (ok n hn)
theorem ArgN.sub {m M : Mem} {d : D} {n : Nx} (s : Sub m M) (h : ArgN m d n) : ArgN M d n := let ⟨sp, h1, h2⟩ := h; ⟨sp, h1, rdM_le s h2⟩
theorem sd_inj : ∀ {a b : List (Int × Int)}, (a.map fun s => D.tup [.int s.1, .int s.2]) = (b.map fun s => D.tup [.int s.1, .int s.2]) → a = b
  | [], [], _ => rfl
  | [], _ :: _, h => by cases h
  | _ :: _, [], h => by cases h
  | (x, y) :: a, (x', y') :: b, h => by
    rw [List.map_cons, List.map_cons] at h
    injection h with h1 h2
    injection h1 with h1
    injection h1 with h3 h4
    injection h4 with h4 h5
    injection h3 with h3
    injection h4 with h4
    have h3 : x = x' := h3
    have h4 : y = y' := h4
    rw [sd_inj h2, h3, h4]
theorem ArgN.inj {m : Mem} {d : D} {n n' : Nx} (h : ArgN m d n) (h' : ArgN m d n') : n = n' := by
  obtain ⟨sp, e1, e2⟩ := h
  obtain ⟨sp', e1', e2'⟩ := h'
  rw [e1] at e1'
  injection e1' with h1
  injection h1 with h2 h1
  injection h1 with h3 h1
  injection h1 with h4 h1
  injection h2 with h2
  injection h3 with h3
  injection h4 with h4
  subst h4
  rw [e2] at e2'
  injection e2' with e
  injection e with e
  obtain ⟨w, b, st⟩ := n
  obtain ⟨w', b', st'⟩ := n'
  have h2 : w = w' := h2
  have h3 : b = b' := h3
  have e : st = st' := sd_inj e
  rw [h2, h3, e]
theorem two_uniq {α β : Type} {R : α → β → Prop} (f : ∀ a b c, R a b → R a c → b = c) {as : List α} {bs cs : List β} (h : Two R as bs) : Two R as cs → bs = cs := by
  induction h generalizing cs with
  | nil => intro k; cases k; rfl
  | cons h _ ih =>
    intro k
    cases k with
    | cons k1 k2 => rw [f _ _ _ h k1, ih k2]

/-! ### rows of a market, read back -/
theorem lookup_zip : ∀ {ks : List Str} {vs : List Int} {j : Nat} {k : Str} {v : Int}, ks.Nodup → ks[j]? = some k → vs[j]? = some v → (ks.zip vs).lookup k = some v
  | [], _, _, _, _, _, h, _ => by simp at h
  | _ :: _, [], _, _, _, _, _, h => by simp at h
  | x :: ks, y :: vs, 0, k, v, _, h1, h2 => by
    simp at h1 h2
    subst h1 h2
    simp [List.lookup]
  | x :: ks, y :: vs, j + 1, k, v, nd, h1, h2 => by
    simp at h1 h2
    rw [List.nodup_cons] at nd
    have ne : k ≠ x := by rintro rfl; exact nd.1 (List.mem_of_getElem? h1)
    have e2 : (k == x) = false := by simpa using ne
    rw [List.zip_cons_cons]
    simp only [List.lookup, e2]
    exact lookup_zip nd.2 h1 h2
theorem rowOf_len {ns : List Nx} {vs : List Int} (h : vs.length = ns.length) : (rowOf ns vs).length = ns.length := by unfold rowOf; rw [List.length_zip, List.length_map]; omega
theorem rowOf_keys {ns : List Nx} {vs : List Int} (h : vs.length = ns.length) : (rowOf ns vs).map (·.1) = ns.map (·.w) := by
  unfold rowOf
  exact List.map_fst_zip (by rw [List.length_map]; omega)
theorem rowO_o (r : List (Str × Int)) : rowO r = Row.o r := rfl
theorem lookup_memR {r : Row} (nd : (r.map (·.1)).Nodup) {p : Str × Int} (hp : p ∈ r) : r.lookup p.1 = some p.2 := by
  induction r with
  | nil => cases hp
  | cons q r ih =>
    obtain ⟨y, j⟩ := q
    rw [List.map_cons, List.nodup_cons] at nd
    rcases List.mem_cons.mp hp with rfl | hp
    · simp [List.lookup]
    · have ne : p.1 ≠ y := fun z => nd.1 (z ▸ List.mem_map.mpr ⟨p, hp, rfl⟩)
      have e2 : (p.1 == y) = false := by simpa using ne
      simp only [List.lookup, e2]
      exact ih nd.2 hp
/-- two dicts of the same row -/
theorem same_row {m : Mem} {n : Nat} {a b : Addr} {r : Row} (h1 : m a = some r.o) (h2 : m b = some r.o) (nd : (r.map (·.1)).Nodup) : SameY m (n + 2) (.ref a) (.ref b) :=
  .inr (.inr (.inr ⟨a, b, _, _, rfl, rfl, h1, h2, rfl, fun p hp => by
    obtain ⟨q, hq, rfl⟩ := List.mem_map.mp hp
    exact ⟨_, row_val (lookup_memR nd hq), .inl (by simp [scD])⟩⟩))

/-! ### the law's own futures -/
local macro_rules | `(tactic| wtm_at "dec") => `(tactic| (simp; omega))
local macro_rules | `(tactic| wtm_at "dec") => `(tactic| (simp [isTy, isiB]; done))
local macro_rules | `(tactic| wtm_at "dec") => `(tactic| first | with_reducible rfl | (simp only [isN, ofString_inj, decide_eq_true_eq, decide_eq_false_iff_not, String.reduceEq, reduceCtorEq, not_false_eq_true, decide_true, decide_false, Bool.not_true, Bool.not_false, Bool.not_eq_true', Bool.not_eq_false', Int.reduceLT, Int.reduceLE, Int.reduceEq]; done) | (decide) | (simp; done) | fail)
local macro_rules | `(tactic| wtm_at "one") => `(tactic| first | (with_reducible refine gMust_in ?_) | ((with_reducible apply i_isiK); (focus assumption); (focus decide)))
local macro_rules | `(tactic| wtm_at "kdt") => `(tactic| (repeat' first | with_reducible assumption | with_reducible exact kdA_nil | with_reducible refine kdA_cons ?_ ?_ | with_reducible refine kdA_app ?_ ?_ | with_reducible exact Kd.non | with_reducible exact Kd.int _ | with_reducible exact Kd.bl _ | with_reducible exact kd_tup0 | ((with_reducible refine kd_tup ?_ ?_); (focus rfl)) | (refine Kd.str _ ?_ ?_ <;> decide +kernel)))
local macro_rules | `(tactic| wtm_at "mem") => `(tactic| with_reducible first | assumption | exact mput_same | (apply mput_new; assumption; wtm_at "mem") | (apply mput_off; assumption; wtm_at "mem") | (apply mput_off'; assumption; wtm_at "mem") | (apply rd_K; wtm_at "mem") | (apply rd_L; wtm_at "mem") | (apply rd_T; wtm_at "mem") | (apply rd_I; wtm_at "mem") | (apply rd_frz; wtm_at "mem") | fail)
def cutM (m : Mem) (p : Addr) : Mem := fun b => if b = p then none else m b
theorem cutM_same {m : Mem} {p : Addr} : cutM m p p = none := by unfold cutM; rw [if_pos rfl]
theorem cutM_ne {m : Mem} {p b : Addr} (h : b ≠ p) : cutM m p b = m b := by unfold cutM; rw [if_neg h]
theorem mput_cut {m : Mem} {p : Addr} {o : O} (h : m p = some o) : mput (cutM m p) p o = m := by
  funext b; unfold mput cutM
  by_cases c : b = p
  · subst c; rw [if_pos rfl, h]
  · rw [if_neg c, if_neg c]
theorem Sub.cut {m M : Mem} {p : Addr} (s : Sub m M) (h : m p = Option.none) : Sub m (cutM M p) := fun b o e => by
  rw [cutM_ne (by rintro rfl; rw [h] at e; cases e)]; exact s b o e
/-- the cell of a row -/
def LC (m M : Mem) (ks : List Nx) (q : Addr) (t : List Int × Int) : Prop := m q = none ∧ M q = some (rowO (rowOf ks t.1))
def prD (cs : List Addr) (L : List (List Int × Int)) : List D := (cs.zip L).map fun t => .tup [.ref t.1, .int t.2.2]
theorem prD_snoc {cs : List Addr} {L : List (List Int × Int)} (h : cs.length = L.length) {a : Addr} {t : List Int × Int} : prD (cs ++ [a]) (L ++ [t]) = prD cs L ++ [.tup [.ref a, .int t.2]] := by
  unfold prD; rw [List.zip_append h, List.map_append]; rfl
theorem prD_len {cs : List Addr} {L : List (List Int × Int)} (h : cs.length = L.length) : (prD cs L).length = L.length := by
  unfold prD; rw [List.length_map, List.length_zip]; omega
theorem prD_at {cs : List Addr} {L : List (List Int × Int)} {j : Nat} {a : Addr} {t : List Int × Int} (h1 : cs[j]? = some a) (h2 : L[j]? = some t) : (prD cs L)[j]? = some (.tup [.ref a, .int t.2]) := by
  unfold prD
  have : (cs.zip L)[j]? = some (a, t) := by rw [List.getElem?_zip_eq_some]; exact ⟨h1, h2⟩
  rw [List.getElem?_map, this]; rfl
theorem LC.mono {m M N : Mem} {ks : List Nx} {q : Addr} {t : List Int × Int} (h : LC m M ks q t) (s : M q = N q) : LC m N ks q t := ⟨h.1, by rw [← s]; exact h.2⟩
theorem LC.sub {m M N : Mem} {ks : List Nx} {q : Addr} {t : List Int × Int} (h : LC m M ks q t) (s : Sub M N) : LC m N ks q t := ⟨h.1, s _ _ h.2⟩
theorem rowOf_snoc {ns : List Nx} {vs : List Int} {j : Nat} {n : Nx} {x : Int} (h : ns[j]? = some n) (hl : vs.length = j) : rowOf (ns.take (j + 1)) (vs ++ [x]) = rowOf (ns.take j) vs ++ [(n.w, x)] := by
  unfold rowOf
  have hj : j < ns.length := (List.getElem?_eq_some_iff.mp h).1
  rw [List.take_succ, h, List.map_append, show (some n).toList = [n] from rfl, List.zip_append (by rw [List.length_map, List.length_take]; omega)]
  rfl
theorem put_rowOf {ns : List Nx} {vs : List Int} {j : Nat} {n : Nx} {x : Int} (nd : (ns.map (·.w)).Nodup) (h : ns[j]? = some n) (hl : vs.length = j) :
    putD ((rowOf (ns.take j) vs).map fun p => ((.inr p.1 : Key), D.int p.2)) (.inr n.w) (.int x) = (rowOf (ns.take (j + 1)) (vs ++ [x])).map fun p => ((.inr p.1 : Key), D.int p.2) := by
  rw [rowOf_snoc h hl, putD_new, List.map_append]
  · rfl
  · intro p hp e
    obtain ⟨q, hq, rfl⟩ := List.mem_map.mp hp
    have e : Sum.inr (α := Int) q.1 = Sum.inr n.w := e
    injection e with e
    have hq1 : q.1 ∈ (ns.take j).map (·.w) := by
      have := (List.of_mem_zip (show (q.1, q.2) ∈ _ from hq)).1
      exact this
    rw [e] at hq1
    obtain ⟨n', hn', en⟩ := List.mem_map.mp hq1
    obtain ⟨i, hi, ei⟩ := List.mem_iff_getElem.mp hn'
    rw [List.length_take] at hi
    rw [List.getElem_take] at ei
    obtain ⟨hj, ej⟩ := List.getElem?_eq_some_iff.mp h
    have h1 : i < (ns.map (·.w)).length := by rw [List.length_map]; omega
    have h2 : j < (ns.map (·.w)).length := by rw [List.length_map]; exact hj
    refine List.pairwise_iff_getElem.mp nd i j h1 h2 (by omega) ?_
    rw [List.getElem_map, List.getElem_map, ei, ej, en]
structure NsH (m : Mem) (nl : Addr) (nds : List D) (ns : List Nx) : Prop where
  e : rdM m nl = some (.lst nds)
  t : Two (ArgN m) nds ns
  ok : ∀ n ∈ ns, n.Ok
  nd : (ns.map (·.w)).Nodup
  n3 : ns.length ≤ 3
theorem NsH.sub {m M : Mem} {nl : Addr} {nds : List D} {ns : List Nx} (h : NsH m nl nds ns) (s : Sub m M) : NsH M nl nds ns := ⟨rdM_le s h.e, two_mono h.t fun _ _ _ h => h.sub s, h.ok, h.nd, h.n3⟩
def gLNexts : SpM := fun ds m Q _ => ∃ (nl r : Addr) (nds : List D) (ns : List Nx) (vs : List Int), ds = [.ref nl, .ref r] ∧ NsH m nl nds ns ∧ m r = some (rowO (rowOf ns vs)) ∧ vs.length = ns.length ∧
  ∀ M a cs, Sub m M → m a = none → M a = none → Two (LC m M ns) cs (nextsL ns vs) → Q (.ref a) (mput M a (.lst (prD cs (nextsL ns vs))))
theorem make_in {C c p nl : Addr} {l : Int} {nds : List D} {ns : List Nx} {m : Mem} {Q : Mem → Prop} {E : XM} (h : NsH m nl nds ns) (l0 : 0 ≤ l) (l1 : l ≤ 12) (hp : m p = none) (q : ∀ M, Sub m M → MkAt C M p l ns → Q M) :
    gInit C c [.ref p, .int l, .ref nl] (mput m p (.ins C [])) (fun d m2 => d = .non ∧ Q m2) E := by
  have sb : Sub m (mput m p (.ins C [])) := Sub.refl.new hp
  have back : ∀ M, SubX p (mput m p (.ins C [])) M → Sub m M := fun M x b o e => x b o (sb _ _ e) (by rintro rfl; rw [hp] at e; cases e)
  have h2 := h.sub sb
  refine ⟨p, .int l, .ref nl, rfl, mput_same, .int l, kd_names h2.e h2.t h.ok, fun _ M9 l9 nx9 x9 hA9 hM9 => ?_, fun hg => ?_⟩
  rotate_left
  · rw [okMk_to h2.e h2.t h.ok h.nd h.n3 l0 l1] at hg
    cases hg
  obtain ⟨e9, a9, ds9, er9, ea9, tw9⟩ := hA9
  cases er9
  have ea := h2.e
  rw [ea] at ea9
  cases ea9
  obtain rfl : nx9 = ns := two_uniq (R := ArgN _) (fun _ _ _ h k => ArgN.inj h k) tw9 h2.t
  cases e9
  exact ⟨rfl, q _ (back M9 x9) hM9⟩

/-! ### the law's own look at a future -/
local macro_rules | `(tactic| wtm_at "dec") => `(tactic| (simp; omega))
local macro_rules | `(tactic| wtm_at "dec") => `(tactic| (simp [isTy, isiB]; done))
local macro_rules | `(tactic| wtm_at "dec") => `(tactic| first | with_reducible rfl | (simp only [isN, ofString_inj, decide_eq_true_eq, decide_eq_false_iff_not, String.reduceEq, reduceCtorEq, not_false_eq_true, decide_true, decide_false, Bool.not_true, Bool.not_false, Bool.not_eq_true', Bool.not_eq_false', Int.reduceLT, Int.reduceLE, Int.reduceEq]; done) | (decide) | (simp; done) | fail)
local macro_rules | `(tactic| wtm_at "one") => `(tactic| first | (with_reducible refine gMust_in ?_) | ((with_reducible apply i_isiK); (focus assumption); (focus decide)))
local macro_rules | `(tactic| wtm_at "kdt") => `(tactic| (repeat' first | with_reducible assumption | with_reducible exact kdA_nil | with_reducible refine kdA_cons ?_ ?_ | with_reducible refine kdA_app ?_ ?_ | with_reducible exact Kd.non | with_reducible exact Kd.int _ | with_reducible exact Kd.bl _ | with_reducible exact kd_tup0 | ((with_reducible refine kd_tup ?_ ?_); (focus rfl)) | (refine Kd.str _ ?_ ?_ <;> decide +kernel)))
local macro_rules | `(tactic| wtm_at "one") => `(tactic| first
  | (with_reducible first | refine i_wsetF ?_ | refine i_wfld ?_ | refine i_wmeth ?_ | refine i_wmethS ?_ | refine i_wmake ?_ | refine i_wmakeS ?_)
  | ((with_reducible apply i_fld); (focus (wtm_at "mem")); (focus assumption); (focus (simp; done)); (focus (wtm_at "mlk")))
  | ((with_reducible apply i_meth); (focus (wtm_at "mem")); (focus (wtm_at "mlk"))))
local macro_rules | `(tactic| wtm_at "mem") => `(tactic| with_reducible first | assumption | exact mput_same | (apply DrI.e; assumption) | (apply DrI.rd; assumption) | (apply mput_new; assumption; wtm_at "mem") | (apply mput_off; assumption; wtm_at "mem") | (apply mput_off'; assumption; wtm_at "mem") | (apply rd_K; wtm_at "mem") | (apply rd_L; wtm_at "mem") | (apply rd_T; wtm_at "mem") | (apply rd_I; wtm_at "mem") | (apply rd_frz; wtm_at "mem") | fail)
def numOk (prev : Option Row) (r : Row) (n : Nx) : Bool := match prev with
  | none => decide (r.at n.w - n.b = 0)
  | some p => decide (r.at n.w - p.at n.w ∈ n.st.map (·.1))
def prevOf (rows : List Row) (j : Nat) : Option Row := if j = 0 then none else rows[j - 1]?
def hourOk (ns : List Nx) (prev : Option Row) (r : Row) : Bool := namesOk ns r && ns.all (numOk prev r)
def lawFut (l : Int) (ns : List Nx) (rows : List Row) : Bool := decide ((rows.length : Int) = l + 1) && (List.range rows.length).all fun j => hourOk ns (prevOf rows j) (rows.getD j [])
def gLIsFut : SpM := fun ds m Q _ => ∃ (l : Int) (nl q : Addr) (nds : List D) (ns : List Nx) (qs : List Addr) (rows : List Row), ds = [.tup [.int l, .ref nl], .ref q] ∧ 0 ≤ l ∧ l ≤ 12 ∧ NsH m nl nds ns ∧ RowsH m q qs rows ∧ ∀ M, Sub m M → Q (.bl (lawFut l ns rows)) M
def byD : D → D
  | .tup (x :: _) => x
  | _ => .non
abbrev s__law_is_future : Stmt := topS 25
theorem sc__law_is_future : FnScope ["_law_drawn", "_law_rows", "_law_last", "_law_names", "_law_hour", "_law_name", "_law_begun_here", "_law_steps_here", "_law_last_one", "_law_by", "_law_one", "_law_step"] ["_law_drawn", "_law_rows"] (defScope s__law_is_future) := ⟨rfl, rfl, rfl, by decide +kernel, rfl, by decide +kernel, by decide +kernel⟩
theorem ok_law_is_future {k : Nat} (Z : Bl mg) {f__law_is_future : Addr} {fd__law_is_future : FuncData} (F : Fun K "_law_is_future" "_law_is_future" s__law_is_future f__law_is_future fd__law_is_future) : FnM P w K mg base CX0 (k + 1) f__law_is_future fd__law_is_future ["_law_drawn", "_law_rows"] (gLIsFut) := by
  refine fn_m F sc__law_is_future (fun ds m Q E h => ?_) (fun cdv A outer s H ds m Q E E' hr h => ?_)
  · obtain ⟨l, nl, q, nds, ns, qs, rows, rfl, _⟩ := h; rfl
  have nd := sc__law_is_future.nd
  obtain ⟨l, nl, qa, nds, ns, qs, rows, rfl, l0, l1, Hs, R, q⟩ := h
  refine ⟨_, (mss_cons (ms_asg (mv 0) (mg_tup rfl (mgs_cons (mg_name (i := 2) nd rfl (.inl rfl)) (mgs_cons (mg_name (i := 3) nd rfl (.inl rfl)) mgs_nil))))
    (mss_cons (ms_if (mt_cmp (mo_neq hr) (mx_callB mc_len1 Z.b_len (ma_cons (mv 1) ma_nil)) (mx_op mo_plus (mv 2) mx_int) (nomark _)) (mss_one (ms_ret mx_bl)) mss_nil)
    (mss_cons (ms_for PassesOwn.never rfl (mi_range1 Z.b_range (ma_cons (mx_callB mc_len1 Z.b_len (ma_cons (mv 1) ma_nil)) ma_nil)) (mg_name (i := 4) nd rfl (.inl rfl)) (mss_cons (ms_if (mt_cmp (mo_neq hr) (mx_callB mc_sortedS Z.b_sorted (ma_cons (mx_callTy mc_list1 Z.b_list (ma_cons (mx_ix (mi_sub hr) (mv 1) (mv 4)) ma_nil)) ma_nil)) (mx_callB mc_sortedS Z.b_sorted (ma_cons (mx_lc (own := [("_law_one", 10)]) rfl nd (mi_list (mv 3)) (blkOk_by (by show blkC ["_law_drawn", "_law_rows", "_law_last", "_law_names", "_law_hour", "_law_name", "_law_begun_here", "_law_steps_here", "_law_last_one", "_law_by", "_law_one", "_law_step"] (defScope s__law_is_future) _ _ = true; decide +kernel)) (fun _ _ _ _ _ => (pg_name (i := 10) nd rfl (Or.inl rfl))) (gok_name (i := 10) (by decide)) (fun _ _ _ _ _ => mts_nil) (fun _ _ _ _ _ => (mx_ix (mi_sub hr) (mv 10) mx_int))) ma_nil)) (nomark _)) (mss_one (ms_ret mx_bl)) mss_nil)
    (mss_one (ms_for PassesOwn.never rfl (mi_list (mv 3)) (mg_tup rfl (mgs_cons (mg_name (i := 5) nd rfl (.inl rfl)) (mgs_cons (mg_name (i := 6) nd rfl (.inl rfl)) (mgs_cons (mg_name (i := 7) nd rfl (.inl rfl)) mgs_nil)))) (mss_cons (ms_set (i := 8) nd rfl (.inl rfl) (mx_if (mt_cmp (mo_eqq hr) (mv 4) mx_int (nomark _)) (mv 6) (mx_ix (mi_sub hr) (mx_ix (mi_sub hr) (mv 1) (mx_op mo_sub (mv 4) mx_int)) (mv 5))))
    (mss_cons (ms_set (i := 9) nd rfl (.inl rfl) (mx_op mo_sub (mx_ix (mi_sub hr) (mx_ix (mi_sub hr) (mv 1) (mv 4)) (mv 5)) (mv 8)))
    (mss_cons (ms_if (mw_pt (mw_and (mt_cmp (mo_eqq hr) (mv 4) mx_int (nomark _)) (mw_and1 (mt_cmp (mo_neq hr) (mv 9) mx_int (nomark _))))) (mss_one (ms_ret mx_bl)) mss_nil)
    (mss_one (ms_if (mw_pt (mw_and (mt_cmp mo_gt (mv 4) mx_int (nomark _)) (mw_and1 (mt_cmp (mo_notin hr) (mv 9) (mx_lc (own := [("_law_step", 11)]) rfl nd (mi_list (mv 7)) (blkOk_by (by show blkC ["_law_drawn", "_law_rows", "_law_last", "_law_names", "_law_hour", "_law_name", "_law_begun_here", "_law_steps_here", "_law_last_one", "_law_by", "_law_one", "_law_step"] (defScope s__law_is_future) _ _ = true; decide +kernel)) (fun _ _ _ _ _ => (pg_name (i := 11) nd rfl (Or.inl rfl))) (gok_name (i := 11) (by decide)) (fun _ _ _ _ _ => mts_nil) (fun _ _ _ _ _ => (mx_ix (mi_sub hr) (mv 11) mx_int))) rfl)))) (mss_one (ms_ret mx_bl)) mss_nil)))))))))
    (mss_one (ms_ret mx_bl))))), ?_⟩
  have hre := R.e
  have hqr := Paired.length R.t
  have hdl := Paired.length Hs.t
  have hn3 := Hs.n3
  wtm_at "go"
  by_cases hL : ((qs.map D.ref).length : Int) = l + 1
  rotate_left
  · rw [decide_eq_false hL]
    have q := q m Sub.refl
    rw [show lawFut l ns rows = false by
      unfold lawFut
      rw [decide_eq_false (show ¬ (rows.length : Int) = l + 1 by rw [List.length_map, hqr] at hL; exact hL)]; rfl] at q
    wtm_at "go"
  rw [decide_eq_true hL]
  have hlen : (qs.map D.ref).length = rows.length := by rw [List.length_map, hqr]
  have hL2 : (rows.length : Int) = l + 1 := by rw [← hlen]; exact hL
  wtm_at "go"
  refine ⟨by omega, by omega, ?_⟩
  rw [hlen, Int.toNat_natCast]
  have bad : ∀ j, j < rows.length → hourOk ns (prevOf rows j) (rows.getD j []) = false → ∀ M, Sub m M → RtM Q (.bl false) M := fun j hj hb M s => by
    have q := q M s
    rw [show lawFut l ns rows = false by
      unfold lawFut
      rw [show ((List.range rows.length).all fun j => hourOk ns (prevOf rows j) (rows.getD j [])) = false from List.all_eq_false.mpr ⟨j, List.mem_range.mpr hj, by rw [hb]; simp⟩, Bool.and_false]] at q
    exact RtM.mk q
  refine forC_ind (fun rest ρ M => ∃ (j : Nat) (e4 e5 e6 e7 e8 e9 : Option D), j ≤ rows.length ∧ rest = (rangeD 0 rows.length).drop j ∧ ρ = [some (.tup [.int l, .ref nl]), some (.ref qa), some (.int l), some (.ref nl), e4, e5, e6, e7, e8, e9, none, none] ∧ Sub m M ∧ ∀ i < j, hourOk ns (prevOf rows i) (rows.getD i []) = true) ⟨0, none, none, none, none, none, none, Nat.zero_le _, rfl, rfl, Sub.refl, fun i h => absurd h (Nat.not_lt_zero i)⟩ ?_ ?_
  · rintro ρ M ⟨j, e4, e5, e6, e7, e8, e9, hj, er, rfl, sM, hA⟩
    obtain rfl := rangeD_nil er hj
    refine ⟨trivial, ?_⟩
    have q := q M sM
    rw [show lawFut l ns rows = true by
      unfold lawFut
      rw [decide_eq_true hL2, show ((List.range rows.length).all fun j => hourOk ns (prevOf rows j) (rows.getD j [])) = true from List.all_eq_true.mpr fun i hi => hA i (List.mem_range.mp hi)]; rfl] at q
    wtm_at "go"
  · rintro d rest ρ M K2 hK ⟨j, e4, e5, e6, e7, e8, e9, hj, er, rfl, sM, hA⟩
    obtain ⟨rfl, er, hj⟩ := rangeD_drop er
    obtain ⟨r, hr1⟩ : ∃ r, rows[j]? = some r := ⟨rows[j], by simp [hj]⟩
    obtain ⟨ra, hra, ear⟩ := two_get R.t hr1
    have hks := R.k r (List.mem_of_getElem? hr1)
    have hgd : rows.getD j [] = r := by rw [List.getD_eq_getElem?_getD, hr1]; rfl
    have reM := rdM_le sM hre
    have hget : atI (qs.map D.ref) (j : Int) = some (.ref ra) := atI_nat (by rw [List.getElem?_map, hra]; rfl)
    refine ⟨trivial, ?_⟩
    wtm_at "go"
    refine i_subL reM hget ?_
    wtm_at "go"
    refine i_listD (sM _ _ ear) ?_
    intro p1 hp1
    have s1 := sM.new (o := .lst ((r.map (·.1)).map .str)) hp1
    have e1 : mput M p1 (.lst ((r.map (·.1)).map .str)) p1 = _ := mput_same
    rw [show ((r.map fun p => ((.inr p.1 : Key), D.int p.2)).map fun p => kD p.1) = (r.map (·.1)).map .str by rw [List.map_map, List.map_map]; rfl]
    generalize mput M p1 (.lst ((r.map (·.1)).map .str)) = M1 at s1 e1 ⊢
    wtm_at "go"
    refine ⟨_, rd_L e1, by rw [List.length_map]; exact hks.n, fun ys hy1 hy2 => ?_⟩
    intro p2 hp2
    have s2 := s1.new (o := .lst (ys.map .str)) hp2
    have e2 : mput M1 p2 (.lst (ys.map .str)) p2 = _ := mput_same
    generalize mput M1 p2 (.lst (ys.map .str)) = M2 at s2 e2 ⊢
    have en2 := rdM_le s2 Hs.e
    wtm_at "go"
    refine ⟨_, en2, ?_⟩
    refine lcC_pure byD (sl (by omega)) en2 ?_ ?_
    · intro d hd R2 hR2
      obtain ⟨n, hn, sp, rfl, es⟩ := two_mem Hs.t hd
      refine ⟨rfl, ?_⟩
      wtm_at "go"
      try exact hR2
    intro p3 hp3
    have en3 : nds.map byD = (ns.map (·.w)).map .str := by
      have : ∀ {a : List D} {b : List Nx}, Two (ArgN m) a b → a.map byD = (b.map (·.w)).map .str := by
        intro a b h
        induction h with
        | nil => rfl
        | cons h _ ih => obtain ⟨sp, rfl, _⟩ := h; rw [List.map_cons, ih]; rfl
      exact this Hs.t
    rw [en3]
    have s3 := s2.new (o := .lst ((ns.map (·.w)).map .str)) hp3
    have e3 : mput M2 p3 (.lst ((ns.map (·.w)).map .str)) p3 = _ := mput_same
    have e2' : mput M2 p3 (.lst ((ns.map (·.w)).map .str)) p2 = _ := mput_new hp3 e2
    generalize mput M2 p3 (.lst ((ns.map (·.w)).map .str)) = M3 at s3 e3 e2' ⊢
    wtm_at "go"
    refine ⟨_, rd_L e3, by rw [List.length_map]; omega, fun zs hz1 hz2 => ?_⟩
    intro p4 hp4
    have s4 := s3.new (o := .lst (zs.map .str)) hp4
    have e4' : mput M3 p4 (.lst (zs.map .str)) p4 = _ := mput_same
    have e2'' : mput M3 p4 (.lst (zs.map .str)) p2 = _ := mput_new hp4 e2'
    generalize mput M3 p4 (.lst (zs.map .str)) = M4 at s4 e4' e2'' ⊢
    have ky : ∀ x ∈ ys, PyData.strOk x = true := fun x hx => hks.s x (hy2.mem_iff.mp hx)
    have kz : ∀ x ∈ zs, PyData.strOk x = true := fun x hx => by
      have := hz2.mem_iff.mp hx
      obtain ⟨n, hn, rfl⟩ := List.mem_map.mp this
      exact (fz_wd (Hs.ok n hn).w).2
    refine ⟨_, eq_ws (rd_L e2'') (rd_L e4') ky kz, ?_⟩
    rw [srt_perm hy1 hy2 hz1 hz2]
    clear e1 e2 e3 e2' e2'' e4' s1 s2 s3 hp1 hp2 hp3 hp4 en2 en3 ky kz hy1 hy2 hz1 hz2
    cases hN : (r.map (·.1)).isPerm (ns.map (·.w)) with
    | false =>
      wtm_at "go"
      exact bad j hj (by rw [hgd]; unfold hourOk namesOk; rw [hN]; rfl) _ s4
    | true =>
    have hok : (r.map (·.1)).Perm (ns.map (·.w)) := List.isPerm_iff.mp hN
    have en4 := rdM_le s4 Hs.e
    wtm_at "go"
    refine ⟨_, en4, ?_⟩
    have badn : ∀ n ∈ ns, numOk (prevOf rows j) r n = false → ∀ M, Sub m M → RtM Q (.bl false) M := fun n hn hb M s => bad j hj (by
      rw [hgd]; unfold hourOk
      rw [show ns.all (numOk (prevOf rows j) r) = false from List.all_eq_false.mpr ⟨n, hn, by rw [hb]; simp⟩, Bool.and_false]) M s
    refine forC_ind (fun rest ρ M' => ∃ (x : Nat) (e5 e6 e7 e8 e9 : Option D), x ≤ ns.length ∧ rest = nds.drop x ∧ ρ = [some (.tup [.int l, .ref nl]), some (.ref qa), some (.int l), some (.ref nl), some (.int j), e5, e6, e7, e8, e9, none, none] ∧ Sub m M' ∧ ∀ i n, i < x → ns[i]? = some n → numOk (prevOf rows j) r n = true) ⟨0, _, _, _, _, _, Nat.zero_le _, rfl, rfl, s4, fun i n h => absurd h (Nat.not_lt_zero i)⟩ ?_ ?_
    · rintro ρ M' ⟨x, e5, e6, e7, e8, e9, hx, er2, rfl, s5, hB⟩
      obtain rfl : x = ns.length := by have := list_nil er2 (by omega); omega
      refine ⟨rdM_le s5 Hs.e, ?_⟩
      refine hK _ _ ⟨j + 1, _, _, _, _, _, _, hj, er, rfl, s5, fun i hi => ?_⟩
      rcases Nat.lt_succ_iff_lt_or_eq.mp hi with h | rfl
      · exact hA i h
      · rw [hgd]
        unfold hourOk namesOk
        rw [hN, Bool.true_and, List.all_eq_true]
        intro n hn
        obtain ⟨i, hi, e⟩ := List.mem_iff_getElem.mp hn
        exact hB i n hi (by rw [List.getElem?_eq_getElem hi, e])
    · rintro d2 rest2 ρ M' K3 hK3 ⟨x, e5, e6, e7, e8, e9, hx, er2, rfl, s5, hB⟩
      obtain ⟨hd, er2', hx⟩ := list_drop er2
      rw [hdl] at hx
      have hn1 : ns[x]? = some ns[x] := by simp [hx]
      generalize ns[x] = n at hn1
      obtain ⟨d', hd', sp, edd, es⟩ := two_get Hs.t hn1
      rw [hd] at hd'
      cases hd'
      subst edd
      have hnm := List.mem_of_getElem? hn1
      obtain ⟨i, hi⟩ := mem_lookup (hok.mem_iff.mpr (List.mem_map.mpr ⟨n, hnm, rfl⟩))
      have hat : r.at n.w = i := by unfold Row.at; rw [hi]; rfl
      have re5 := rdM_le s5 hre
      have ear5 := s5 _ _ ear
      have es5 := rdM_le s5 es
      have hK4 : numOk (prevOf rows j) r n = true → ∀ M6, Sub m M6 → ∀ e8 e9, K3 [some (.tup [.int l, .ref nl]), some (.ref qa), some (.int l), some (.ref nl), some (.int j), some (.str n.w), some (.int n.b), some (.ref sp), e8, e9, none, none] M6 := fun ho M6 s6 e8 e9 => hK3 _ _ ⟨x + 1, _, _, _, _, _, hx, er2', rfl, s6, fun i' n' h h2 => by
        rcases Nat.lt_succ_iff_lt_or_eq.mp h with h | rfl
        · exact hB i' n' h h2
        · rw [hn1] at h2; cases h2; exact ho⟩
      refine ⟨rdM_le s5 Hs.e, ?_⟩
      wtm_at "go"
      by_cases j0 : j = 0
      · subst j0
        wtm_at "go"
        refine i_subL re5 hget ?_
        wtm_at "go"
        refine i_subK (rd_K ear5) (row_val hi) ?_
        wtm_at "go"
        have eN : numOk (prevOf rows 0) r n = decide (i - n.b = 0) := by unfold prevOf numOk; rw [if_pos rfl, hat]
        by_cases hz : i - n.b = 0
        · rw [decide_eq_true hz]
          wtm_at "go"
          exact hK4 (by rw [eN]; exact decide_eq_true hz) _ s5 _ _
        · rw [decide_eq_false hz]
          wtm_at "go"
          exact badn n hnm (by rw [eN]; exact decide_eq_false hz) _ s5
      · rw [decide_eq_false (show ¬ (j : Int) = 0 by omega)]
        wtm_at "go"
        have hj1 : j - 1 < rows.length := by omega
        obtain ⟨rp, hrp⟩ : ∃ r, rows[j - 1]? = some r := ⟨rows[j - 1], by simp [hj1]⟩
        obtain ⟨rb, hrb, erb⟩ := two_get R.t hrp
        have hgp : rows.getD (j - 1) [] = rp := by rw [List.getD_eq_getElem?_getD, hrp]; rfl
        have hAp := hA (j - 1) (by omega)
        rw [hgp] at hAp
        unfold hourOk at hAp
        rw [Bool.and_eq_true] at hAp
        have hokp : (rp.map (·.1)).Perm (ns.map (·.w)) := List.isPerm_iff.mp hAp.1
        obtain ⟨ip, hip⟩ := mem_lookup (hokp.mem_iff.mpr (List.mem_map.mpr ⟨n, hnm, rfl⟩))
        have hatp : rp.at n.w = ip := by unfold Row.at; rw [hip]; rfl
        rw [show (j : Int) - 1 = ((j - 1 : Nat) : Int) by omega]
        refine i_subL re5 (atI_nat (by rw [List.getElem?_map, hrb]; rfl)) ?_
        wtm_at "go"
        refine i_subK (rd_K (s5 _ _ erb)) (row_val hip) ?_
        wtm_at "go"
        refine i_subL re5 hget ?_
        wtm_at "go"
        refine i_subK (rd_K ear5) (row_val hi) ?_
        wtm_at "go"
        refine ⟨_, es5, ?_⟩
        refine lcC_pure byD (sl (by unfold Nx.sd; rw [List.length_map]; have := (Hs.ok n hnm).s4; omega)) es5 ?_ ?_
        · intro d hd R2 hR2
          unfold Nx.sd at hd
          obtain ⟨u, hu, rfl⟩ := List.mem_map.mp hd
          refine ⟨rfl, ?_⟩
          wtm_at "go"
          try exact hR2
        intro p5 hp5
        rw [show n.sd.map byD = (n.st.map (·.1)).map .int by unfold Nx.sd; rw [List.map_map, List.map_map]; rfl]
        refine i_notin (in_lst (rd_L mput_same) rfl (by simp [flD])) ?_
        rw [any_ints]
        have s6 := s5.new (o := .lst ((n.st.map (·.1)).map .int)) hp5
        have eN : numOk (prevOf rows j) r n = decide (i - ip ∈ n.st.map (·.1)) := by
          unfold prevOf
          rw [if_neg j0, hrp]
          show decide (r.at n.w - rp.at n.w ∈ n.st.map (·.1)) = _
          rw [hat, hatp]
        by_cases hz : i - ip ∈ n.st.map (·.1)
        · rw [decide_eq_true hz]
          wtm_at "go"
          exact hK4 (by rw [eN]; exact decide_eq_true hz) _ s6 _ _
        · rw [decide_eq_false hz]
          wtm_at "go"
          exact badn n hnm (by rw [eN]; exact decide_eq_false hz) _ s6
/-! what may come next, told by the numbers -/
theorem mem_nextStep {st : List (Int × Int)} {v x : Int} {acc : List (List Int × Int)} {pre : List Int} : pre ++ [x] ∈ (nextStep st v acc).map (·.1) ↔ pre ∈ acc.map (·.1) ∧ x - v ∈ st.map (·.1) := by
  unfold nextStep
  constructor
  · intro h
    obtain ⟨t, ht, e⟩ := List.mem_map.mp h
    obtain ⟨u, hu, ht⟩ := List.mem_flatMap.mp ht
    obtain ⟨s, hs, rfl⟩ := List.mem_map.mp ht
    have e : u.1 ++ [v + s.1] = pre ++ [x] := e
    obtain ⟨e1, e2⟩ := List.append_inj' e rfl
    injection e2 with e2 _
    exact ⟨List.mem_map.mpr ⟨u, hu, e1⟩, List.mem_map.mpr ⟨s, hs, by omega⟩⟩
  · rintro ⟨h1, h2⟩
    obtain ⟨u, hu, rfl⟩ := List.mem_map.mp h1
    obtain ⟨s, hs, e⟩ := List.mem_map.mp h2
    exact List.mem_map.mpr ⟨(u.1 ++ [v + s.1], u.2 * s.2), List.mem_flatMap.mpr ⟨u, hu, List.mem_map.mpr ⟨s, hs, rfl⟩⟩, by show u.1 ++ [v + s.1] = u.1 ++ [x]; rw [show v + s.1 = x by omega]⟩
theorem mem_nextsF {f g : Nx → Int} : ∀ {ns : List Nx} {acc : List (List Int × Int)} {pre : List Int}, (∀ t ∈ acc, t.1.length = pre.length) → (pre ++ ns.map f ∈ (nextsF (ns.zip (ns.map g)) acc).map (·.1) ↔ pre ∈ acc.map (·.1) ∧ ∀ n ∈ ns, f n - g n ∈ n.st.map (·.1))
  | [], acc, pre, _ => by simp [nextsF]
  | n :: ns, acc, pre, h => by
    rw [List.map_cons, List.map_cons, List.zip_cons_cons, nextsF, show pre ++ f n :: ns.map f = (pre ++ [f n]) ++ ns.map f by simp]
    rw [mem_nextsF (ns := ns) (acc := nextStep n.st (g n) acc) (pre := pre ++ [f n]) (fun t ht => by
      unfold nextStep at ht
      obtain ⟨u, hu, ht⟩ := List.mem_flatMap.mp ht
      obtain ⟨s, hs, rfl⟩ := List.mem_map.mp ht
      show (u.1 ++ [g n + s.1]).length = _
      rw [List.length_append, List.length_append, h u hu]; rfl), mem_nextStep]
    simp only [List.mem_cons, forall_eq_or_imp, and_assoc]
theorem step_ok {ns : List Nx} {p r : Row} : stepOk ns (vsOf ns p) (vsOf ns r) = ns.all (numOk (some p) r) := by
  unfold stepOk vsOf nextsL
  rw [Bool.eq_iff_iff, decide_eq_true_eq, List.all_eq_true]
  have := mem_nextsF (f := fun n => r.at n.w) (g := fun n => p.at n.w) (ns := ns) (acc := [([], 1)]) (pre := []) (by simp)
  rw [List.nil_append] at this
  rw [this]
  simp [numOk]
theorem lawFut_eq {l : Int} {ns : List Nx} {rows : List Row} (h0 : 0 ≤ l) : lawFut l ns rows = isFut l ns rows := by
  unfold lawFut isFut
  by_cases hL : (rows.length : Int) = l + 1
  rotate_left
  · rw [decide_eq_false hL]; rfl
  rw [decide_eq_true hL, Bool.true_and, Bool.true_and, Bool.eq_iff_iff]
  simp only [Bool.and_eq_true, List.all_eq_true, decide_eq_true_eq, List.mem_range]
  have gd : ∀ j, (hj : j < rows.length) → rows.getD j [] = rows[j] := fun j hj => by rw [List.getD_eq_getElem?_getD, List.getElem?_eq_getElem hj]; rfl
  have pd : ∀ j, (hj : j < rows.length) → (rows.map (vsOf ns)).getD j [] = vsOf ns rows[j] := fun j hj => by rw [List.getD_eq_getElem?_getD, List.getElem?_map, List.getElem?_eq_getElem hj]; rfl
  have hz : (∀ n ∈ ns, (rows[0]'(by omega)).at n.w - n.b = 0) ↔ vsOf ns (rows[0]'(by omega)) = ns.map (·.b) := by
    unfold vsOf
    rw [List.map_inj_left]
    exact ⟨fun h n hn => by have := h n hn; omega, fun h n hn => by have := h n hn; omega⟩
  have hpv : ∀ j, (hj : j + 1 < rows.length) → prevOf rows (j + 1) = some (rows[j]'(by omega)) := fun j hj => by
    unfold prevOf; rw [if_neg (by omega)]; simp [show j < rows.length by omega]
  constructor
  · intro h
    refine ⟨⟨fun r hr => ?_, ?_⟩, fun j hj => ?_⟩
    · obtain ⟨j, hj, rfl⟩ := List.mem_iff_getElem.mp hr
      have := h j hj
      rw [gd j hj] at this
      unfold hourOk at this
      rw [Bool.and_eq_true] at this
      exact this.1
    · rw [pd 0 (by omega)]
      have := h 0 (by omega)
      rw [gd 0 (by omega)] at this
      unfold hourOk at this
      rw [Bool.and_eq_true, List.all_eq_true] at this
      exact hz.mp fun n hn => by
        have := this.2 n hn
        unfold prevOf numOk at this
        rw [if_pos rfl] at this
        exact of_decide_eq_true this
    · have hj1 : j + 1 < rows.length := by omega
      unfold pathOk
      rw [pd j (by omega), pd (j + 1) hj1, step_ok]
      have := h (j + 1) hj1
      rw [gd _ hj1, hpv j hj1] at this
      unfold hourOk at this
      rw [Bool.and_eq_true] at this
      exact this.2
  · rintro ⟨⟨h1, h2⟩, h3⟩ j hj
    rw [gd j hj]
    unfold hourOk
    rw [Bool.and_eq_true]
    refine ⟨h1 _ (List.getElem_mem _), ?_⟩
    cases j with
    | zero =>
      rw [pd 0 (by omega)] at h2
      rw [List.all_eq_true]
      intro n hn
      unfold prevOf numOk
      rw [if_pos rfl]
      exact decide_eq_true (hz.mpr h2 n hn)
    | succ j =>
      have := h3 j (by omega)
      unfold pathOk at this
      rw [pd j (by omega), pd (j + 1) hj, step_ok] at this
      rw [hpv j hj]
      exact this

local macro_rules | `(tactic| wtm_at "dec") => `(tactic| (simp; omega))
local macro_rules | `(tactic| wtm_at "dec") => `(tactic| (simp [isTy, isiB]; done))
local macro_rules | `(tactic| wtm_at "dec") => `(tactic| first | with_reducible rfl | (simp only [isN, ofString_inj, decide_eq_true_eq, decide_eq_false_iff_not, String.reduceEq, reduceCtorEq, not_false_eq_true, decide_true, decide_false, Bool.not_true, Bool.not_false, Bool.not_eq_true', Bool.not_eq_false', Int.reduceLT, Int.reduceLE, Int.reduceEq]; done) | (decide) | (simp; done) | fail)
local macro_rules | `(tactic| wtm_at "one") => `(tactic| first | (with_reducible refine gMust_in ?_) | ((with_reducible apply i_isiK); (focus assumption); (focus decide)))
local macro_rules | `(tactic| wtm_at "kdt") => `(tactic| (repeat' first | with_reducible assumption | with_reducible exact kdA_nil | with_reducible refine kdA_cons ?_ ?_ | with_reducible refine kdA_app ?_ ?_ | with_reducible exact Kd.non | with_reducible exact Kd.int _ | with_reducible exact Kd.bl _ | with_reducible exact kd_tup0 | ((with_reducible refine kd_tup ?_ ?_); (focus rfl)) | (refine Kd.str _ ?_ ?_ <;> decide +kernel)))
local macro_rules | `(tactic| wtm_at "one") => `(tactic| first
  | (with_reducible first | refine i_wsetF ?_ | refine i_wfld ?_ | refine i_wmeth ?_ | refine i_wmethS ?_ | refine i_wmake ?_ | refine i_wmakeS ?_)
  | ((with_reducible apply i_fld); (focus (wtm_at "mem")); (focus assumption); (focus (simp; done)); (focus (wtm_at "mlk")))
  | ((with_reducible apply i_meth); (focus (wtm_at "mem")); (focus (wtm_at "mlk"))))
local macro_rules | `(tactic| wtm_at "mem") => `(tactic| with_reducible first | assumption | exact mput_same | (apply DrI.e; assumption) | (apply DrI.rd; assumption) | (apply mput_new; assumption; wtm_at "mem") | (apply mput_off; assumption; wtm_at "mem") | (apply mput_off'; assumption; wtm_at "mem") | (apply rd_K; wtm_at "mem") | (apply rd_L; wtm_at "mem") | (apply rd_T; wtm_at "mem") | (apply rd_I; wtm_at "mem") | (apply rd_frz; wtm_at "mem") | fail)
/-! ### rows that are made and changed -/
theorem i_seqK {t u : TSm} {E : EndsM} {ρ : StM} {m : Mem} (P : StM → Mem → Prop) (h1 : ∀ K : StM → Mem → Prop, (∀ ρ m, P ρ m → K ρ m) → t { E with nx := K } ρ m) (h2 : ∀ ρ m, P ρ m → u E ρ m) : wSeq t u E ρ m := h1 _ h2
def Row.kv (r : Row) : List (Key × D) := r.map fun p => (.inr p.1, .int p.2)
def Row.put (r : Row) (k : Str) (v : Int) : Row := if k ∈ r.map (·.1) then r.map (fun p => if p.1 = k then (p.1, v) else p) else r ++ [(k, v)]
theorem Row.put_kv {r : Row} {k : Str} {v : Int} : putD r.kv (.inr k) (.int v) = (r.put k v).kv := by
  have e : (r.kv.any fun kv => decide (kv.1 = (.inr k : Key))) = decide (k ∈ r.map (·.1)) := by
    unfold Row.kv
    rw [List.any_map, Bool.eq_iff_iff, List.any_eq_true, decide_eq_true_eq, List.mem_map]
    constructor
    · rintro ⟨p, hp, e⟩
      have e : decide ((Sum.inr p.1 : Key) = .inr k) = true := e
      exact ⟨p, hp, Sum.inr.inj (of_decide_eq_true e)⟩
    · rintro ⟨p, hp, e⟩
      exact ⟨p, hp, decide_eq_true (show (Sum.inr p.1 : Key) = _ by rw [e])⟩
  unfold putD Row.put
  rw [e]
  by_cases c : k ∈ r.map (·.1)
  · rw [decide_eq_true c, if_pos rfl, if_pos c]
    unfold Row.kv
    rw [List.map_map, List.map_map]
    refine List.map_congr_left fun p _ => ?_
    show (if (Sum.inr p.1 : Key) = .inr k then ((Sum.inr p.1 : Key), D.int v) else _) = _
    by_cases c2 : p.1 = k
    · rw [if_pos (by rw [c2])]
      show _ = ((.inr (if p.1 = k then (p.1, v) else p).1 : Key), D.int (if p.1 = k then (p.1, v) else p).2)
      rw [if_pos c2]
    · rw [if_neg fun z => c2 (Sum.inr.inj z)]
      show _ = ((.inr (if p.1 = k then (p.1, v) else p).1 : Key), D.int (if p.1 = k then (p.1, v) else p).2)
      rw [if_neg c2]
  · rw [decide_eq_false c, if_neg Bool.false_ne_true, if_neg c]
    unfold Row.kv
    rw [List.map_append]; rfl
theorem Row.put_keys {r : Row} {k : Str} {v : Int} (h : k ∈ r.map (·.1)) : (r.put k v).map (·.1) = r.map (·.1) := by
  unfold Row.put
  rw [if_pos h, List.map_map]
  refine List.map_congr_left fun p _ => ?_
  show (if p.1 = k then (p.1, v) else p).1 = p.1
  split <;> rfl
structure RowG (n : Nat) (r : Row) : Prop where
  n : r.length ≤ n
  s : ∀ x ∈ r.map (·.1), PyData.strOk x = true
  nd : (r.map (·.1)).Nodup
theorem RowG.put {n : Nat} {r : Row} {k : Str} {v : Int} (h : RowG n r) (hk : PyData.strOk k = true) : RowG (n + 1) (r.put k v) := by
  by_cases c : k ∈ r.map (·.1)
  · have e := Row.put_keys (v := v) c
    refine ⟨?_, by rw [e]; exact h.s, by rw [e]; exact h.nd⟩
    have := congrArg List.length e
    rw [List.length_map, List.length_map] at this
    have := h.n; omega
  · have e : r.put k v = r ++ [(k, v)] := by unfold Row.put; rw [if_neg c]
    rw [e]
    refine ⟨by rw [List.length_append]; have := h.n; simp; omega, fun x hx => ?_, ?_⟩
    · rw [List.map_append] at hx
      rcases List.mem_append.mp hx with hx | hx
      · exact h.s x hx
      · rw [List.mem_singleton.mp hx]; exact hk
    · rw [List.map_append, List.nodup_append]
      exact ⟨h.nd, by simp, fun x hx y hy => by rw [List.mem_singleton.mp hy]; rintro rfl; exact c hx⟩
theorem Row.drop_kv {r : Row} {k : Str} : dropKD r.kv (.inr k) = Row.kv (r.filter fun p => decide (p.1 ≠ k)) := by
  unfold dropKD Row.kv
  rw [List.filter_map]
  congr 1
  refine List.filter_congr fun p _ => ?_
  show decide ((Sum.inr p.1 : Key) ≠ .inr k) = _
  rw [decide_eq_decide]
  exact ⟨fun z e => z (by rw [e]), fun z e => z (Sum.inr.inj e)⟩
theorem RowG.drop {n : Nat} {r : Row} {k : Str} (h : RowG n r) : RowG n (r.filter fun p => decide (p.1 ≠ k)) :=
  ⟨Nat.le_trans (List.length_filter_le _ _) h.n, fun x hx => h.s x ((List.filter_sublist.map _).subset hx), (List.filter_sublist.map _).nodup h.nd⟩
theorem RowG.ks {r : Row} (h : RowG 8 r) : KsOk r := ⟨by have := h.n; omega, h.s⟩
theorem Row.lk {r : Row} {k : Str} (h : k ∈ r.map (·.1)) : ∃ v, r.lookup k = some v := by
  induction r with
  | nil => simp at h
  | cons p r ih =>
    by_cases c : k = p.1
    · exact ⟨p.2, by simp [List.lookup, c]⟩
    · have c2 : (k == p.1) = false := by simpa using c
      rw [List.map_cons, List.mem_cons] at h
      obtain ⟨v, hv⟩ := ih (h.resolve_left c)
      exact ⟨v, by simp only [List.lookup, c2]; exact hv⟩
theorem mergeD_fresh : ∀ {more kvs : List (Key × D)}, ((kvs ++ more).map (·.1)).Nodup → mergeD kvs more = kvs ++ more
  | [], kvs, _ => by simp [mergeD]
  | p :: more, kvs, h => by
    have h1 : putD kvs p.1 p.2 = kvs ++ [p] := putD_new fun q hq e => by
      rw [List.map_append, List.nodup_append] at h
      exact h.2.2 q.1 (List.mem_map.mpr ⟨q, hq, rfl⟩) p.1 (by simp) e
    show mergeD (putD kvs p.1 p.2) more = _
    rw [h1, mergeD_fresh (by rw [List.append_assoc]; exact h), List.append_assoc]; rfl
theorem NsH.x {m M : Mem} {a nl : Addr} {nds : List D} {ns : List Nx} (h : NsH m nl nds ns) (x : SubX a m M) (hrd : ∀ ds, rdM m a ≠ some (.lst ds)) : NsH M nl nds ns :=
  ⟨x.rd h.e hrd, two_mono h.t fun d n _ ⟨sp, e1, e2⟩ => ⟨sp, e1, x.rd e2 hrd⟩, h.ok, h.nd, h.n3⟩
theorem atI_last {α : Type} {xs : List α} {n : Nat} {v : α} (h : xs.length = n + 1) (e : xs[n]? = some v) : atI xs (-1) = some v := by
  unfold atI ixN
  rw [h]
  simp
  rw [if_pos (by omega)]
  show xs[(-1 + ((n : Int) + 1)).toNat]? = _
  rw [show (-1 + ((n : Int) + 1)).toNat = n by omega]
  exact e
theorem DM.fresh {K : PySem.W.Frag} {a : Addr} {s s' : Dr} {m M : Mem} (D : DM K a s m s' M) {p : Addr} (h : M p = none) : m p = none := by
  by_cases e : p = a
  · subst e; rw [D.I.e] at h; cases h
  · cases z : m p with
    | none => rfl
    | some o => rw [D.x _ _ z e] at h; cases h
def pairD : D → D
  | .tup (x :: y :: _) => .tup [x, y]
  | _ => .non
theorem argN_mem {m : Mem} {ds : List D} {ns : List Nx} (h : Two (ArgN m) ds ns) {d : D} (hd : d ∈ ds) : ∃ (n : Nx) (sp : Addr), d = .tup [.str n.w, .int n.b, .ref sp] := by
  induction h with
  | nil => cases hd
  | cons h _ ih =>
    rcases List.mem_cons.mp hd with rfl | hd
    · obtain ⟨sp, e, _⟩ := h; exact ⟨_, sp, e⟩
    · exact ih hd
theorem argN_pairs {m : Mem} {ds : List D} {ns : List Nx} (h : Two (ArgN m) ds ns) : ds.map pairD = (ns.map fun n => ((.inr n.w : Key), D.int n.b)).map fun p => D.tup [kD p.1, p.2] := by
  induction h with
  | nil => rfl
  | cons h _ ih =>
    obtain ⟨sp, rfl, _⟩ := h
    rw [List.map_cons, ih]; rfl
/-- rows as drawn: of all names, in their order -/
def RegW (m0 M : Mem) (q : Addr) (ns : List Nx) (N : Nat) : Prop := ∃ (qs : List Addr) (rows : List Row), M q = some (.lst (qs.map .ref)) ∧ Two (fun x (r : Row) => M x = some r.o ∧ m0 x = none) qs rows ∧ (∀ r ∈ rows, r.map (·.1) = ns.map (·.w)) ∧ rows.length = N
/-- rows of whatever names -/
def GenW (m0 M : Mem) (q : Addr) (n : Nat) : Prop := ∃ (qs : List Addr) (rows : List Row), M q = some (.lst (qs.map .ref)) ∧ Two (fun x (r : Row) => M x = some r.o ∧ m0 x = none) qs rows ∧ (∀ r ∈ rows, RowG n r) ∧ rows.length ≤ 20
theorem two_app {α β : Type} {R : α → β → Prop} {as cs : List α} {bs ds : List β} (h : Two R as bs) (k : Two R cs ds) : Two R (as ++ cs) (bs ++ ds) := by
  induction h with
  | nil => exact k
  | cons h _ ih => exact .cons h ih
theorem two_take {α β : Type} {R : α → β → Prop} {as : List α} {bs : List β} (h : Two R as bs) : ∀ n, Two R (as.take n) (bs.take n) := by
  induction h with
  | nil => intro n; rw [List.take_nil, List.take_nil]; exact .nil
  | cons h _ ih =>
    intro n
    cases n with
    | zero => exact .nil
    | succ n => exact .cons h (ih n)
theorem two_drop {α β : Type} {R : α → β → Prop} {as : List α} {bs : List β} (h : Two R as bs) : ∀ n, Two R (as.drop n) (bs.drop n) := by
  induction h with
  | nil => intro n; rw [List.drop_nil, List.drop_nil]; exact .nil
  | cons h t ih =>
    intro n
    cases n with
    | zero => exact .cons h t
    | succ n => exact ih n
theorem rows_put {m0 M : Mem} {x : Addr} {r' : Row} {qs : List Addr} {rows : List Row} (tw : Two (fun y (r : Row) => M y = some r.o ∧ m0 y = none) qs rows) : ∃ rows', Two (fun y (r : Row) => mput M x r'.o y = some r.o ∧ m0 y = none) qs rows' ∧ rows'.length = rows.length ∧ ∀ r ∈ rows', r ∈ rows ∨ r = r' := by
  induction tw with
  | nil => exact ⟨[], .nil, rfl, fun r hr => (by cases hr)⟩
  | cons h _ ih =>
    rename_i y r qs rows h2
    obtain ⟨rows', t, l, k⟩ := ih
    by_cases c : y = x
    · refine ⟨r' :: rows', .cons ⟨by rw [c]; exact mput_same, h.2⟩ t, by rw [List.length_cons, List.length_cons, l], fun z hz => ?_⟩
      rcases List.mem_cons.mp hz with rfl | hz
      · exact .inr rfl
      · exact (k z hz).imp (List.mem_cons_of_mem _) id
    · refine ⟨r :: rows', .cons ⟨(mput_ne c).trans h.1, h.2⟩ t, by rw [List.length_cons, List.length_cons, l], fun z hz => ?_⟩
      rcases List.mem_cons.mp hz with rfl | hz
      · exact .inl List.mem_cons_self
      · exact (k z hz).imp (List.mem_cons_of_mem _) id
theorem RegW.put {m0 M : Mem} {q x : Addr} {ns : List Nx} {N : Nat} {r r' : Row} (h : RegW m0 M q ns N) (e : M x = some r.o) (hk : r'.map (·.1) = ns.map (·.w)) : RegW m0 (mput M x r'.o) q ns N := by
  obtain ⟨qs, rows, eq, tw, k, l⟩ := h
  obtain ⟨rows', t, l', k'⟩ := rows_put (x := x) (r' := r') tw
  exact ⟨qs, rows', (mput_ne (by rintro rfl; rw [e] at eq; cases eq)).trans eq, t, fun z hz => (k' z hz).elim (k z) fun e => by rw [e]; exact hk, l'.trans l⟩
theorem GenW.put {m0 M : Mem} {q x : Addr} {n : Nat} {r r' : Row} (h : GenW m0 M q n) (e : M x = some r.o) (hk : RowG n r') : GenW m0 (mput M x r'.o) q n := by
  obtain ⟨qs, rows, eq, tw, k, l⟩ := h
  obtain ⟨rows', t, l', k'⟩ := rows_put (x := x) (r' := r') tw
  exact ⟨qs, rows', (mput_ne (by rintro rfl; rw [e] at eq; cases eq)).trans eq, t, fun z hz => (k' z hz).elim (k z) fun e => by rw [e]; exact hk, by omega⟩
theorem RowG.up {n n' : Nat} {r : Row} (h : RowG n r) (z : n ≤ n') : RowG n' r := ⟨Nat.le_trans h.n z, h.s, h.nd⟩
theorem RowG.names {ns : List Nx} (ok : ∀ n ∈ ns, n.Ok) (nd : (ns.map (·.w)).Nodup) (n3 : ns.length ≤ 3) {r : Row} (h : r.map (·.1) = ns.map (·.w)) : RowG 7 r :=
  ⟨by have := congrArg List.length h; rw [List.length_map, List.length_map] at this; omega, fun x hx => by rw [h] at hx; obtain ⟨n, hn, rfl⟩ := List.mem_map.mp hx; exact (fz_wd (ok n hn).w).2, by rw [h]; exact nd⟩
theorem RegW.gen {m0 M : Mem} {q : Addr} {ns : List Nx} {N : Nat} (h : RegW m0 M q ns N) (ok : ∀ n ∈ ns, n.Ok) (nd : (ns.map (·.w)).Nodup) (n3 : ns.length ≤ 3) (hN : N ≤ 14) : GenW m0 M q 8 := by
  obtain ⟨qs, rows, eq, tw, k, l⟩ := h
  exact ⟨qs, rows, eq, tw, fun r hr => (RowG.names ok nd n3 (k r hr)).up (by omega), by omega⟩
theorem RegW.x {m0 M N : Mem} {q a : Addr} {ns : List Nx} {n : Nat} (h : RegW m0 M q ns n) (nq : m0 q = none) (x : SubX a M N) (ha : m0 a ≠ none) : RegW m0 N q ns n := by
  obtain ⟨qs, rows, eq, tw, k, l⟩ := h
  exact ⟨qs, rows, x _ _ eq (by rintro rfl; exact ha nq), two_mono tw fun y r _ h => ⟨x _ _ h.1 (by rintro rfl; exact ha h.2), h.2⟩, k, l⟩
theorem GenW.x {m0 M N : Mem} {q a : Addr} {n : Nat} (h : GenW m0 M q n) (nq : m0 q = none) (x : SubX a M N) (ha : m0 a ≠ none) : GenW m0 N q n := by
  obtain ⟨qs, rows, eq, tw, k, l⟩ := h
  exact ⟨qs, rows, x _ _ eq (by rintro rfl; exact ha nq), two_mono tw fun y r _ h => ⟨x _ _ h.1 (by rintro rfl; exact ha h.2), h.2⟩, k, l⟩
theorem RegW.row {m0 M : Mem} {q : Addr} {ns : List Nx} {N : Nat} (h : RegW m0 M q ns N) {i : Int} (i0 : 0 ≤ i) (i1 : i < N) : ∃ (qs : List Addr) (x : Addr) (r : Row), M q = some (.lst (qs.map .ref)) ∧ qs.length = N ∧ atI (qs.map D.ref) i = some (.ref x) ∧ M x = some r.o ∧ m0 x = none ∧ r.map (·.1) = ns.map (·.w) := by
  obtain ⟨qs, rows, eq, tw, k, l⟩ := h
  have hl := Paired.length tw
  obtain ⟨r, hr⟩ : ∃ r, rows[i.toNat]? = some r := ⟨rows[i.toNat]'(by omega), by simp [show i.toNat < rows.length by omega]⟩
  obtain ⟨x, hx, ex, nx⟩ := two_get tw hr
  refine ⟨qs, x, r, eq, by omega, ?_, ex, nx, k r (List.mem_of_getElem? hr)⟩
  have := atI_nat (xs := qs.map D.ref) (j := i.toNat) (v := .ref x) (by rw [List.getElem?_map, hx]; rfl)
  rw [show ((i.toNat : Nat) : Int) = i by omega] at this
  exact this
theorem cutL_map' {α β : Type} {f : α → β} {xs : List α} {lo hi : Option Int} : cutL (xs.map f) lo hi = (cutL xs lo hi).map f := by
  unfold cutL; rw [List.length_map, List.map_take, List.map_drop]
theorem sIx_nat' {n : Nat} {i : Int} {d : Nat} (h0 : 0 ≤ i) : HT.sIx n d (some i) = min i.toNat n := by
  show (if i < 0 then (i + (n : Int)).toNat else min i.toNat n) = min i.toNat n
  rw [if_neg (by omega)]
theorem cutL_pre' {α : Type} {xs : List α} {i : Int} (h0 : 0 ≤ i) (h1 : i ≤ xs.length) : cutL xs none (some i) = xs.take i.toNat := by
  unfold cutL
  rw [sIx_nat' h0, show HT.sIx xs.length 0 none = 0 from rfl, List.drop_zero, Nat.sub_zero, show min i.toNat xs.length = i.toNat by omega]
theorem cutL_suf2 {α : Type} {xs : List α} {i : Int} (h0 : 0 ≤ i) (h1 : i ≤ xs.length) : cutL xs (some i) none = xs.drop i.toNat := by
  unfold cutL
  rw [sIx_nat' h0, show HT.sIx xs.length xs.length none = xs.length from rfl, show min i.toNat xs.length = i.toNat by omega]
  exact List.take_of_length_le (by rw [List.length_drop]; omega)
/-- rows of two pieces -/
theorem GenW.two {m0 M N : Mem} {q q' : Addr} {ns : List Nx} {n i j : Nat} (h : RegW m0 M q ns n) (s : Sub M N) (ok : ∀ n ∈ ns, n.Ok) (nd : (ns.map (·.w)).Nodup) (n3 : ns.length ≤ 3) (hn : n ≤ 13) (hij : i ≤ j + 2) {qs : List Addr} (eq : M q = some (.lst (qs.map .ref))) (e : N q' = some (.lst ((qs.take i ++ qs.drop j).map .ref))) : GenW m0 N q' 8 := by
  obtain ⟨qs', rows, eq', tw, k, l⟩ := h
  rw [eq] at eq'
  have : qs' = qs := by
    have e := (O.lst.inj (Option.some.inj eq')).symm
    exact (List.map_inj_right (fun a b h => by cases h; rfl)).mp e
  subst this
  refine ⟨_, rows.take i ++ rows.drop j, e, two_mono (two_app (two_take tw i) (two_drop tw j)) fun y r _ h => ⟨s _ _ h.1, h.2⟩, fun r hr => ?_, by rw [List.length_append, List.length_take, List.length_drop]; omega⟩
  refine (RowG.names ok nd n3 (k r ?_)).up (by omega)
  rcases List.mem_append.mp hr with h | h
  · exact List.mem_of_mem_take h
  · exact List.mem_of_mem_drop h
theorem sameL_rows {m : Mem} : ∀ {rows : List Row} {rs qs : List Addr}, Two (fun x (r : Row) => m x = some r.o) rs rows → Two (fun x (r : Row) => m x = some r.o) qs rows → (∀ r ∈ rows, (r.map (·.1)).Nodup) → SameL m (rs.map .ref) (qs.map .ref)
  | [], _, _, .nil, .nil, _ => trivial
  | r :: rows, x :: rs, y :: qs, .cons h1 t1, .cons h2 t2, k => ⟨⟨x, y, rfl, rfl, _, _, h1, h2, rfl, fun p hp => by
      obtain ⟨u, hu, rfl⟩ := List.mem_map.mp hp
      exact ⟨row_val (lookup_memR (k r List.mem_cons_self) hu), .inl ⟨_, rfl⟩⟩⟩, sameL_rows t1 t2 fun r hr => k r (List.mem_cons_of_mem _ hr)⟩
def WayP (K : PySem.W.Frag) (c a L : Addr) (l w at_ : Int) (s4 : Dr) (m0 : Mem) (ns : List Nx) (kk : Int) (ρ : StM) (M : Mem) : Prop := ∃ (s' : Dr) (q : Addr) (e4 e5 e6 e7 e8 e9 e12 e13 : Option D), ρ = [some (.ref c), some (.ref a), some (.tup [.int l, .ref L]), some (.ref q), e4, e5, e6, e7, e8, e9, some (.int w), some (.int at_), e12, e13, none, none] ∧ DM K a s4 m0 s' M ∧ m0 q = none ∧ (RegW m0 M q ns (l.toNat + 1) ∨ (GenW m0 M q 8 ∧ w < kk))
abbrev s_law : Stmt := topS 26
theorem sc_law : FnScope ["_law_script", "_law_s", "_law_drawn", "_law_rows", "_law_one", "_law_hour", "_law_row", "_law_name", "_law_begun_here", "_law_steps_here", "_law_way", "_law_at", "_law_which", "_law_number_here", "_law_handed", "_law_found"] ["_law_script"] (defScope s_law) := ⟨rfl, rfl, rfl, by decide +kernel, rfl, by decide +kernel, by decide +kernel⟩
theorem ok_law {k : Nat} (Z : Bl mg) {c_Market c_BadMarket : Addr} {f__law_begun : Addr} {fd__law_begun : FuncData} (D__law_begun : Df K mg "_law_begun" f__law_begun fd__law_begun ["_law_script"]) (G__law_begun : FnM P w K mg base CX0 (k + 1) f__law_begun fd__law_begun ["_law_script"] (spBegun K)) {f__law_taken : Addr} {fd__law_taken : FuncData} (D__law_taken : Df K mg "_law_taken" f__law_taken fd__law_taken ["_law_s", "_law_most"]) (G__law_taken : FnM P w K mg base CX0 (k + 1) f__law_taken fd__law_taken ["_law_s", "_law_most"] (spTaken K)) {f__law_word : Addr} {fd__law_word : FuncData} (D__law_word : Df K mg "_law_word" f__law_word fd__law_word ["_law_s", "_law_k"]) (G__law_word : FnM P w K mg base CX0 (k + 1) f__law_word fd__law_word ["_law_s", "_law_k"] (spWord K)) {f__law_market : Addr} {fd__law_market : FuncData} (D__law_market : Df K mg "_law_market" f__law_market fd__law_market ["_law_s", "_law_many"]) (G__law_market : FnM P w K mg base CX0 (k + 1) f__law_market fd__law_market ["_law_s", "_law_many"] (spMarket K)) {f__law_alike : Addr} {fd__law_alike : FuncData} (D__law_alike : Df K mg "_law_alike" f__law_alike fd__law_alike ["_law_found", "_law_due"]) (G__law_alike : FnM P w K mg base CX0 (k + 1) f__law_alike fd__law_alike ["_law_found", "_law_due"] (spAlB 6)) {f__law_is_future : Addr} {fd__law_is_future : FuncData} (D__law_is_future : Df K mg "_law_is_future" f__law_is_future fd__law_is_future ["_law_drawn", "_law_rows"]) (G__law_is_future : FnM P w K mg base CX0 (k + 1) f__law_is_future fd__law_is_future ["_law_drawn", "_law_rows"] (gLIsFut)) {f_Market___init__ : Addr} {fd_Market___init__ : FuncData} (C_Market : Dc K mg "Market" c_Market f_Market___init__ fd_Market___init__ ["self", "last", "names"]) (G_Market___init__ : FnM P w K mg base (L2.CX P w) (k) f_Market___init__ fd_Market___init__ ["self", "last", "names"] (gInit c_Market c_BadMarket)) {f_Market_is_future : Addr} {fd_Market_is_future : FuncData} (D_Market_is_future : Dm K c_Market "is_future" f_Market_is_future fd_Market_is_future ["self", "rows"]) (G_Market_is_future : FnM P w K mg base CX0 (k + 1) f_Market_is_future fd_Market_is_future ["self", "rows"] (gIsFut c_Market)) {f_law : Addr} {fd_law : FuncData} (F : Fun K "law" "law" s_law f_law fd_law) : FnM P w K mg base CX0 (k + 2) f_law fd_law ["_law_script"] (spLaw K) := by
  refine fn_m F sc_law (fun ds m Q E h => ?_) (fun cdv A outer s H ds m Q E E' hr h => ?_)
  · obtain ⟨c, ns, rfl, _⟩ := h; rfl
  have nd := sc_law.nd
  obtain ⟨c, cs, rfl, hL, hl, q0⟩ := h
  refine ⟨_, (mss_cons (ms_set (i := 1) nd rfl (.inl rfl) (mx_call (Em := noX) G__law_begun hr D__law_begun.m D__law_begun.k D__law_begun.b pass0M (ma_cons (mv 0) ma_nil)))
    (mss_cons (ms_set (i := 2) nd rfl (.inl rfl) (mx_call (Em := noX) G__law_market hr D__law_market.m D__law_market.k D__law_market.b pass0M (ma_cons (mv 1) (ma_cons (mx_call (Em := noX) G__law_taken hr D__law_taken.m D__law_taken.k D__law_taken.b pass0M (ma_cons (mv 1) (ma_cons mx_int ma_nil))) ma_nil))))
    (mss_cons (ms_if (mt_cmp (mo_eqq hr) (mx_call (Em := noX) G__law_taken hr D__law_taken.m D__law_taken.k D__law_taken.b pass0M (ma_cons (mv 1) (ma_cons mx_int ma_nil))) mx_int (nomark _)) (mss_one (ms_set (i := 2) nd rfl (.inl rfl) (mx_tup (ma_cons (mx_op mo_sub mx_int (mx_call (Em := noX) G__law_taken hr D__law_taken.m D__law_taken.k D__law_taken.b pass0M (ma_cons (mv 1) (ma_cons mx_int ma_nil)))) (ma_cons (mx_ix (mi_sub hr) (mv 2) mx_int) ma_nil))))) mss_nil)
    (mss_cons (ms_set (i := 3) nd rfl (.inl rfl) (mx_lst (ma_cons (mx_callTy mc_dictP Z.b_dict (ma_cons (mx_lc (own := [("_law_one", 4)]) rfl nd (mi_list (mx_ix (mi_sub hr) (mv 2) mx_int)) (blkOk_by (by show blkC ["_law_script", "_law_s", "_law_drawn", "_law_rows", "_law_one", "_law_hour", "_law_row", "_law_name", "_law_begun_here", "_law_steps_here", "_law_way", "_law_at", "_law_which", "_law_number_here", "_law_handed", "_law_found"] (defScope s_law) _ _ = true; decide +kernel)) (fun _ _ _ _ _ => (pg_name (i := 4) nd rfl (Or.inl rfl))) (gok_name (i := 4) (by decide)) (fun _ _ _ _ _ => mts_nil) (fun _ _ _ _ _ => (mx_tup (ma_cons (mx_ix (mi_sub hr) (mv 4) mx_int) (ma_cons (mx_ix (mi_sub hr) (mv 4) mx_int) ma_nil))))) ma_nil)) ma_nil)))
    (mss_cons (ms_for PassesOwn.never rfl (mi_range1 Z.b_range (ma_cons (mx_ix (mi_sub hr) (mv 2) mx_int) ma_nil)) (mg_name (i := 5) nd rfl (.inl rfl)) (mss_cons (ms_set (i := 6) nd rfl (.inl rfl) (mx_callTy mc_dict1 Z.b_dict (ma_cons (mx_ix (mi_sub hr) (mv 3) (mx_neg mx_int)) ma_nil)))
    (mss_cons (ms_for PassesOwn.never rfl (mi_list (mx_ix (mi_sub hr) (mv 2) mx_int)) (mg_tup rfl (mgs_cons (mg_name (i := 7) nd rfl (.inl rfl)) (mgs_cons (mg_name (i := 8) nd rfl (.inl rfl)) (mgs_cons (mg_name (i := 9) nd rfl (.inl rfl)) mgs_nil)))) (mss_one (ms_dput (hu1 hr) (mv 6) (mv 7) (mx_op mo_plus (mx_ix (mi_sub hr) (mv 6) (mv 7)) (mx_ix (mi_sub hr) (mx_ix (mi_sub hr) (mv 9) (mx_call (Em := noX) G__law_taken hr D__law_taken.m D__law_taken.k D__law_taken.b pass0M (ma_cons (mv 1) (ma_cons (mx_callB mc_len1 Z.b_len (ma_cons (mv 9) ma_nil)) ma_nil)))) mx_int)))))
    (mss_one (ms_expr (mx_append (mv 3) (mv 6)))))))
    (mss_cons (ms_set (i := 10) nd rfl (.inl rfl) (mx_call (Em := noX) G__law_taken hr D__law_taken.m D__law_taken.k D__law_taken.b pass0M (ma_cons (mv 1) (ma_cons mx_int ma_nil))))
    (mss_cons (ms_set (i := 11) nd rfl (.inl rfl) (mx_ix (mi_sub hr) (mx_lst (ma_cons (mx_call (Em := noX) G__law_taken hr D__law_taken.m D__law_taken.k D__law_taken.b pass0M (ma_cons (mv 1) (ma_cons (mx_callB mc_len1 Z.b_len (ma_cons (mv 3) ma_nil)) ma_nil))) (ma_cons (mx_op mo_sub (mx_callB mc_len1 Z.b_len (ma_cons (mv 3) ma_nil)) mx_int) ma_nil))) (mx_call (Em := noX) G__law_taken hr D__law_taken.m D__law_taken.k D__law_taken.b pass0M (ma_cons (mv 1) (ma_cons mx_int ma_nil)))))
    (mss_cons (ms_if (mw_pt (mw_and (mt_cmp (mo_eqq hr) (mv 10) mx_int (nomark _)) (mw_and1 (mt_cmp mo_gt (mx_callB mc_len1 Z.b_len (ma_cons (mx_ix (mi_sub hr) (mv 2) mx_int) ma_nil)) mx_int (nomark _))))) (mss_cons (ms_set (i := 12) nd rfl (.inl rfl) (mx_ix (mi_sub hr) (mx_ix (mi_sub hr) (mx_ix (mi_sub hr) (mv 2) mx_int) (mx_call (Em := noX) G__law_taken hr D__law_taken.m D__law_taken.k D__law_taken.b pass0M (ma_cons (mv 1) (ma_cons (mx_callB mc_len1 Z.b_len (ma_cons (mx_ix (mi_sub hr) (mv 2) mx_int) ma_nil)) ma_nil)))) mx_int))
    (mss_one (ms_dput (hu1 hr) (mx_ix (mi_sub hr) (mv 3) (mv 11)) (mv 12) (mx_op mo_sub (mx_op mo_plus (mx_ix (mi_sub hr) (mx_ix (mi_sub hr) (mv 3) (mv 11)) (mv 12)) (mx_call (Em := noX) G__law_taken hr D__law_taken.m D__law_taken.k D__law_taken.b pass0M (ma_cons (mv 1) (ma_cons mx_int ma_nil)))) mx_int)))) mss_nil)
    (mss_cons (ms_if (mt_cmp (mo_eqq hr) (mv 10) mx_int (nomark _)) (mss_one (ms_set (i := 3) nd rfl (.inl rfl) (mx_op mo_plus (mx_slice (mv 3) mo_none (mo_some (mv 11))) (mx_slice (mv 3) (mo_some (mx_op mo_plus (mv 11) mx_int)) mo_none)))) mss_nil)
    (mss_cons (ms_if (mt_cmp (mo_eqq hr) (mv 10) mx_int (nomark _)) (mss_one (ms_set (i := 3) nd rfl (.inl rfl) (mx_op mo_plus (mx_slice (mv 3) mo_none (mo_some (mx_op mo_plus (mv 11) mx_int))) (mx_slice (mv 3) (mo_some (mv 11)) mo_none)))) mss_nil)
    (mss_cons (ms_if (mt_cmp (mo_eqq hr) (mv 10) mx_int (nomark _)) (mss_one (ms_dput (hu1 hr) (mx_ix (mi_sub hr) (mv 3) (mv 11)) (mx_call (Em := noX) G__law_word hr D__law_word.m D__law_word.k D__law_word.b pass0M (ma_cons (mv 1) (ma_cons mx_int ma_nil))) mx_int)) mss_nil)
    (mss_cons (ms_if (mw_pt (mw_and (mt_cmp (mo_eqq hr) (mv 10) mx_int (nomark _)) (mw_and1 (mt_cmp mo_gt (mx_callB mc_len1 Z.b_len (ma_cons (mx_ix (mi_sub hr) (mv 2) mx_int) ma_nil)) mx_int (nomark _))))) (mss_cons (ms_set (i := 7) nd rfl (.inl rfl) (mx_ix (mi_sub hr) (mx_ix (mi_sub hr) (mx_ix (mi_sub hr) (mv 2) mx_int) mx_int) mx_int))
    (mss_cons (ms_set (i := 13) nd rfl (.inl rfl) (mx_dpop (mx_ix (mi_sub hr) (mv 3) (mv 11)) (mv 7)))
    (mss_one (ms_if (mt_cmp (mo_eqq hr) (mx_call (Em := noX) G__law_taken hr D__law_taken.m D__law_taken.k D__law_taken.b pass0M (ma_cons (mv 1) (ma_cons mx_int ma_nil))) mx_int (nomark _)) (mss_one (ms_dput (hu1 hr) (mx_ix (mi_sub hr) (mv 3) (mv 11)) (mv 7) (mv 13))) mss_nil)))) mss_nil)
    (mss_cons (ms_setLc (i := 14) (own := [("_law_row", 6)]) rfl nd rfl rfl (sw_true rfl rfl rfl (by decide +kernel)) (mi_list (mv 3)) (blkOk_by (by show blkC ["_law_script", "_law_s", "_law_drawn", "_law_rows", "_law_one", "_law_hour", "_law_row", "_law_name", "_law_begun_here", "_law_steps_here", "_law_way", "_law_at", "_law_which", "_law_number_here", "_law_handed", "_law_found"] (defScope s_law) _ _ = true; decide +kernel)) (fun _ _ _ _ _ => (pg_name (i := 6) nd rfl (Or.inl rfl))) (gok_name (i := 6) (by decide)) (fun _ _ _ _ _ => mts_nil) (fun _ _ _ _ _ => (mx_callTy mc_dict1 Z.b_dict (ma_cons (mv 6) ma_nil))))
    (mss_cons (ms_set (i := 15) nd rfl (.inl rfl) (mx_meth (Em := noX) (mx_make (Em := noX) C_Market.k G_Market___init__ hr C_Market.g C_Market.b passX0 (ma_cons (mx_ix (mi_sub hr) (mv 2) mx_int) (ma_cons (mx_ix (mi_sub hr) (mv 2) mx_int) ma_nil))) D_Market_is_future.c D_Market_is_future.m G_Market_is_future hr D_Market_is_future.b pass0M (ma_cons (mv 14) ma_nil)))
    (mss_one (ms_ret (mx_and (mx_call (Em := noX) G__law_alike hr D__law_alike.m D__law_alike.k D__law_alike.b pass0M (ma_cons (mv 15) (ma_cons (mx_call (Em := noX) G__law_is_future hr D__law_is_future.m D__law_is_future.k D__law_is_future.b pass0M (ma_cons (mv 2) (ma_cons (mv 3) ma_nil))) ma_nil))) (mx_one (mx_cmp (mo_eqL hr) (mv 14) (mv 3) (nomark _)))))))))))))))))))), ?_⟩
  wtm_at "go"
  refine ⟨c, cs, rfl, hL, hl, fun a s m1 ea ha S1 I B N0 nea hodd => ?_⟩
  wtm_at "go"
  refine spTaken.dm (DM.start I) (by decide) (by decide) fun v s2 m2 v0 v1 D2 x2 => ?_
  wtm_at "go"
  refine ⟨a, s2, v.toNat, by rw [show ((v.toNat : Nat) : Int) = v by omega], by omega, D2.I, B.nx D2.n, fun l ns L ds s3 m3 D3 nL eL tw hln hok hnm l0 l1 llim hsd => ?_⟩
  have okn : ∀ n ∈ ns, n.Ok := fun n hn => (hok n hn).1
  have B3 := (B.nx D2.n).nx D3.n
  have ndn : (ns.map (·.w)).Nodup := by
    rw [hnm]
    unfold List.Nodup
    rw [List.pairwise_map]
    refine List.Pairwise.imp_of_mem (fun {x y} hx hy hab e => hab ?_) List.nodup_range
    have h1 := List.mem_range.mp hx
    have h2 := List.mem_range.mp hy
    have := wordOf_inj (B.nx D2.n) (by omega) (by omega) (by omega) (by omega) e
    omega
  have Hs : NsH m3 L ds ns := ⟨rd_L eL, two_mono tw fun _ _ _ h => h.arg, okn, ndn, by omega⟩
  have I3 := D3.I
  clear D3 D2 x2 hok hnm nL tw hsd llim eL
  with_reducible refine i_seqK (fun ρ M => ∃ l s4, ρ = [some (.ref c), some (.ref a), some (.tup [.int l, .ref L]), none, none, none, none, none, none, none, none, none, none, none, none, none] ∧ 0 ≤ l ∧ l ≤ 12 ∧ NsH M L ds ns ∧ DrI K M a s4 ∧ DrB s4) ?_ ?_
  · intro K2 hK
    wtm_at "go"
    refine spTaken.dm (DM.start I3) (by decide) (by decide) fun v s4 m4 v0 v1 D4 x4 => ?_
    have hrd : ∀ ds, rdM m3 a ≠ some (.lst ds) := fun ds z => by rw [I3.rd] at z; cases z
    have Hs4 := Hs.x x4 hrd
    wtm_at "go"
    by_cases c4 : v = 2
    · rw [decide_eq_true c4]
      wtm_at "go"
      refine spTaken.dm (DM.start D4.I) (by decide) (by decide) fun u s5 m5 u0 u1 D5 x5 => ?_
      have hrd : ∀ ds, rdM m4 a ≠ some (.lst ds) := fun ds z => by rw [D4.I.rd] at z; cases z
      wtm_at "go"
      exact hK _ _ ⟨12 - u, s5, rfl, by omega, by omega, Hs4.x x5 hrd, D5.I, (B3.nx D4.n).nx D5.n⟩
    · rw [decide_eq_false c4]
      wtm_at "go"
      exact hK _ _ ⟨l, s4, rfl, l0, by omega, Hs4, D4.I, B3.nx D4.n⟩
  clear I3 Hs I B B3 l0 l1 N0 v0 v1 ea ha S1 nea hodd
  rintro ρ m0 ⟨l, s4, rfl, l0, l1, Hs, I4, B4⟩
  have hds := Paired.length Hs.t
  have n3 := Hs.n3
  have hrd0 : ∀ ds, rdM m0 a ≠ some (.lst ds) := fun ds z => by rw [I4.rd] at z; cases z
  wtm_at "go"
  refine ⟨_, Hs.e, ?_⟩
  refine lcC_pure pairD (by rw [hds]; exact Nat.le_of_lt (sl (by omega))) Hs.e ?_ ?_
  · intro d hd R hR
    obtain ⟨n, sp, rfl⟩ := argN_mem Hs.t hd
    wtm_at "go"
    refine ⟨rfl, ?_⟩
    wtm_at "go"
    try exact hR
  rw [argN_pairs Hs.t]
  intro pl hpl
  refine ⟨ns.map fun n => (.inr n.w, .int n.b), rd_L mput_same, ?_⟩
  have D1 := (DM.start I4).new (o := .lst ((ns.map fun n => ((.inr n.w : Key), D.int n.b)).map fun p => D.tup [kD p.1, p.2])) hpl
  have sM1 : Sub m0 (mput m0 pl (.lst ((ns.map fun n => ((.inr n.w : Key), D.int n.b)).map fun p => D.tup [kD p.1, p.2]))) := Sub.refl.new hpl
  generalize mput m0 pl (.lst ((ns.map fun n => ((.inr n.w : Key), D.int n.b)).map fun p => D.tup [kD p.1, p.2])) = M1 at D1 sM1 ⊢
  rw [show mergeD [] (ns.map fun n => ((.inr n.w : Key), D.int n.b)) = Row.kv (ns.map fun n => (n.w, n.b)) from by
    rw [mergeD_fresh (by
      rw [List.nil_append, List.map_map]
      have e : ((fun x : Key × D => x.1) ∘ fun n : Nx => ((.inr n.w : Key), D.int n.b)) = Sum.inr ∘ Nx.w := rfl
      rw [e, ← List.map_map]
      exact List.Pairwise.map _ (fun a b h z => h (Sum.inr.inj z)) Hs.nd), List.nil_append]
    unfold Row.kv
    rw [List.map_map]; rfl]
  intro p0 hp0
  have np0 : m0 p0 = none := D1.fresh hp0
  have D2 : DM K a s4 m0 s4 (mput M1 p0 (.dK (Row.kv (ns.map fun n => (n.w, n.b))))) := D1.new hp0
  have ep0 : mput M1 p0 (.dK (Row.kv (ns.map fun n => (n.w, n.b)))) p0 = some (Row.o (ns.map fun n => (n.w, n.b))) := mput_same
  generalize mput M1 p0 (.dK (Row.kv (ns.map fun n => (n.w, n.b)))) = M2 at D2 ep0 ⊢
  wtm_at "go"
  intro q hq
  have nq : m0 q = none := D2.fresh hq
  have D3 := D2.new (o := .lst [.ref p0]) hq
  have R3 : RegW m0 (mput M2 q (.lst [.ref p0])) q ns 1 := ⟨[p0], [ns.map fun n => (n.w, n.b)], mput_same, .cons ⟨mput_new hq ep0, np0⟩ .nil, fun r hr => by rw [List.mem_singleton.mp hr, List.map_map]; rfl, rfl⟩
  generalize mput M2 q (.lst [.ref p0]) = M3 at D3 R3 ⊢
  clear ep0 D2 hq np0 D1 sM1 hpl hp0
  have ina : ∀ {s' M}, DM K a s4 m0 s' M → NsH M L ds ns := fun D => Hs.x D.x hrd0
  wtm_at "go"
  refine ⟨by omega, by omega, ?_⟩
  refine forC_ind (fun rest ρ M => ∃ (j : Nat) (s' : Dr) (e5 e6 e7 e8 e9 : Option D), j ≤ l.toNat ∧ rest = (rangeD 0 l.toNat).drop j ∧ ρ = [some (.ref c), some (.ref a), some (.tup [.int l, .ref L]), some (.ref q), none, e5, e6, e7, e8, e9, none, none, none, none, none, none] ∧ DM K a s4 m0 s' M ∧ RegW m0 M q ns (j + 1)) ⟨0, s4, none, none, none, none, none, Nat.zero_le _, rfl, rfl, D3, R3⟩ ?_ ?_
  rotate_left
  · rintro d rest ρ M K2 hK ⟨j, s', e5, e6, e7, e8, e9, hj, er, rfl, DD, R⟩
    obtain ⟨rfl, er, hj⟩ := rangeD_drop er
    refine ⟨trivial, ?_⟩
    obtain ⟨qs, rows, eq, tw, hk, hN⟩ := R
    have hqs := Paired.length tw
    obtain ⟨r, hr⟩ : ∃ r, rows[j]? = some r := ⟨rows[j]'(by omega), by simp [show j < rows.length by omega]⟩
    obtain ⟨x, hx, ex, nx⟩ := two_get tw hr
    have hkr := hk r (List.mem_of_getElem? hr)
    wtm_at "go"
    refine i_subL (rd_L eq) (atI_last (n := j) (by rw [List.length_map]; omega) (by rw [List.getElem?_map, hx]; rfl)) ?_
    wtm_at "go"
    refine ⟨_, rd_K ex, ?_⟩
    intro p hp
    have hDo := DD
    have np : m0 p = none := DD.fresh hp
    have DP : DM K a s4 m0 s' (mput M p (.dK (r.map fun p => (.inr p.1, .int p.2)))) := DD.new hp
    have eq3 : mput M p (.dK (r.map fun p => (.inr p.1, .int p.2))) q = some (.lst (qs.map .ref)) := mput_new hp eq
    have ep3 : mput M p (.dK (r.map fun p => (.inr p.1, .int p.2))) p = some (Row.o r) := mput_same
    have tw3 : Two (fun x (r9 : Row) => (mput M p (.dK (r.map fun p => (.inr p.1, .int p.2))) x = some r9.o ∧ x ≠ p) ∧ m0 x = none) qs rows := two_mono tw fun x r' _ h => ⟨⟨by
      have : x ≠ p := by rintro rfl; rw [hp] at h; cases h.1
      exact (mput_ne this).trans h.1, by rintro rfl; rw [hp] at h; cases h.1⟩, h.2⟩
    generalize mput M p (.dK (r.map fun p => (.inr p.1, .int p.2))) = M4 at DP eq3 ep3 tw3 ⊢
    have npa : p ≠ a := by rintro rfl; rw [I4.e] at np; cases np
    have nqa : q ≠ a := by rintro rfl; rw [I4.e] at nq; cases nq
    have nqp : q ≠ p := by rintro rfl; rw [ep3] at eq3; cases eq3
    wtm_at "go"
    refine ⟨_, (ina DP).e, ?_⟩
    refine forC_ind (fun rest ρ N => ∃ (t : Nat) (s5 : Dr) (r : Row) (e7 e8 e9 : Option D), t ≤ ds.length ∧ rest = ds.drop t ∧ ρ = [some (.ref c), some (.ref a), some (.tup [.int l, .ref L]), some (.ref q), none, some (.int (j : Int)), some (.ref p), e7, e8, e9, none, none, none, none, none, none] ∧ DM K a s4 m0 s5 N ∧ N p = some (Row.o r) ∧ r.map (·.1) = ns.map (·.w) ∧ (∀ b o, b ≠ a → b ≠ p → M4 b = some o → N b = some o)) ⟨0, s', r, e7, e8, e9, Nat.zero_le _, rfl, rfl, DP, ep3, hkr, fun b o _ _ e => e⟩ ?_ ?_
    · rintro ρ N ⟨t, s5, r2, e7, e8, e9, ht, ert, rfl, DN, epN, hkN, keep⟩
      refine ⟨(ina DN).e, ?_⟩
      have eqN := keep _ _ nqa nqp eq3
      wtm_at "go"
      refine ⟨⟨_, rd_L eqN⟩, ?_⟩
      wtm_at "go"
      refine ⟨_, eqN, sl (by rw [List.length_map]; omega), ?_⟩
      refine hK _ _ ⟨j + 1, s5, _, _, _, _, _, hj, er, rfl, DN.put I4 nq nqa, qs ++ [p], rows ++ [r2], by rw [mput_same, List.map_append]; rfl, two_snoc (two_mono tw3 fun x r' _ h => ⟨(mput_ne (by rintro rfl; rw [h.1.1] at eq3; cases eq3)).trans (keep _ _ (by rintro rfl; rw [I4.e] at h; cases h.2) h.1.2 h.1.1), h.2⟩) ⟨(mput_ne nqp.symm).trans epN, np⟩, fun r' hr' => ?_, by rw [List.length_append, hN]; rfl⟩
      rcases List.mem_append.mp hr' with h | h
      · exact hk r' h
      · rw [List.mem_singleton.mp h]; exact hkN
    · rintro d rest ρ N K3 hK3 ⟨t, s5, r2, e7, e8, e9, ht, ert, rfl, DN, epN, hkN, keep⟩
      obtain ⟨hd, ert', ht⟩ := list_drop ert
      have HN := ina DN
      refine ⟨HN.e, ?_⟩
      obtain ⟨n, hn⟩ : ∃ n, ns[t]? = some n := ⟨ns[t]'(by omega), by simp [show t < ns.length by omega]⟩
      obtain ⟨d', hd', sp, rfl, esp⟩ := two_get HN.t hn
      rw [hd] at hd'
      cases hd'
      have okn := Hs.ok n (List.mem_of_getElem? hn)
      have hmem : n.w ∈ r2.map (·.1) := by rw [hkN]; exact List.mem_map.mpr ⟨n, List.mem_of_getElem? hn, rfl⟩
      obtain ⟨v, hv⟩ := Row.lk hmem
      wtm_at "go"
      refine i_subK (rd_K epN) (row_val hv) ?_
      wtm_at "go"
      have hsl : n.sd.length = n.st.length := by unfold Nx.sd; rw [List.length_map]
      have hs1 := okn.s1
      have hs4 := okn.s4
      refine spTaken.dm DN (by omega) (by omega) fun u s6 N2 u0 u1 D5 x5 => ?_
      have esp2 := x5.rd esp (fun ds z => by rw [DN.I.rd] at z; cases z)
      have epN2 := x5 _ _ epN npa
      obtain ⟨st, hst⟩ : ∃ st, n.st[u.toNat]? = some st := ⟨n.st[u.toNat]'(by omega), by simp [show u.toNat < n.st.length by omega]⟩
      have eat : atI n.sd u = some (.tup [.int st.1, .int st.2]) := by
        have := atI_nat (xs := n.sd) (j := u.toNat) (v := .tup [.int st.1, .int st.2]) (by unfold Nx.sd; rw [List.getElem?_map, hst]; rfl)
        rw [show ((u.toNat : Nat) : Int) = u by omega] at this
        exact this
      refine i_subL esp2 eat ?_
      wtm_at "go"
      have hrl : r2.length ≤ 3 := by have := congrArg List.length hkN; rw [List.length_map, List.length_map] at this; omega
      refine i_putK (kvs := Row.kv r2) epN2 (by show (List.map _ r2).length < _; rw [List.length_map]; exact small1000 (by omega)) ?_
      rw [Row.put_kv]
      refine hK3 _ _ ⟨t + 1, s6, r2.put n.w (v + st.1), _, _, _, ht, ert', rfl, D5.put I4 np npa, mput_same, by rw [Row.put_keys hmem]; exact hkN, fun b o h1 h2 e => (mput_ne h2).trans (x5 _ _ (keep b o h1 h2 e) h1)⟩
  · rintro ρ M ⟨j, s', e5, e6, e7, e8, e9, hj, er, rfl, DD, R⟩
    obtain rfl := rangeD_nil er hj
    refine ⟨trivial, ?_⟩
    clear er hj D3 R3 M3 
    wtm_at "go"
    refine spTaken.dm DD (by decide) (by decide) fun w s5 M5 w0 w1 D5 x5 => ?_
    have nqa : q ≠ a := by rintro rfl; rw [I4.e] at nq; cases nq
    have Rx : ∀ {M N : Mem}, RegW m0 M q ns (l.toNat + 1) → SubX a M N → RegW m0 N q ns (l.toNat + 1) := fun ⟨qs, rows, eq, tw, hk, hN⟩ x => ⟨qs, rows, x _ _ eq nqa, two_mono tw fun y r _ h => ⟨x _ _ h.1 (by rintro rfl; rw [I4.e] at h; cases h.2), h.2⟩, hk, hN⟩
    have R5 := Rx R x5
    obtain ⟨qs, rows, eq5, tw5, -, hN5⟩ := R5
    have hqs := Paired.length tw5
    wtm_at "go"
    rw [List.length_map, hqs, hN5]
    refine spTaken.dm D5 (by omega) (by omega) fun z s6 M6 z0 z1 D6 x6 => ?_
    have eq6 := x6 _ _ eq5 nqa
    wtm_at "go"
    rw [List.length_map, hqs, hN5]
    intro pz hpz
    have D7 := D6.new (o := .lst [.int z, .int (((l.toNat + 1 : Nat) : Int) - 1)]) hpz
    have npz : m0 pz = none := D6.fresh hpz
    have ez : mput M6 pz (.lst [.int z, .int (((l.toNat + 1 : Nat) : Int) - 1)]) pz = _ := mput_same
    have R7 : RegW m0 (mput M6 pz (.lst [.int z, .int (((l.toNat + 1 : Nat) : Int) - 1)])) q ns (l.toNat + 1) := by
      obtain ⟨qs, rows, eq, tw, hk, hN⟩ := Rx (Rx R x5) x6
      exact ⟨qs, rows, mput_new hpz eq, two_mono tw fun y r _ h => ⟨mput_new hpz h.1, h.2⟩, hk, hN⟩
    have npza : pz ≠ a := by rintro rfl; rw [I4.e] at npz; cases npz
    generalize mput M6 pz (.lst [.int z, .int (((l.toNat + 1 : Nat) : Int) - 1)]) = M7 at D7 ez R7 ⊢
    wtm_at "go"
    refine spTaken.dm D7 (by decide) (by decide) fun y s8 M8 y0 y1 D8 x8 => ?_
    have ez8 := rd_L (x8 _ _ ez npza)
    have R8 := Rx R7 x8
    obtain ⟨at_, eat, at0, at1⟩ : ∃ at_ : Int, atI [D.int z, .int (((l.toNat + 1 : Nat) : Int) - 1)] y = some (.int at_) ∧ 0 ≤ at_ ∧ at_ ≤ l := by
      rcases (show y = 0 ∨ y = 1 by omega) with rfl | rfl
      · exact ⟨z, atI_nat (j := 0) rfl, by omega, by omega⟩
      · exact ⟨_, atI_nat (j := 1) rfl, by omega, by omega⟩
    refine i_subL ez8 eat ?_
    have w5 : w ≤ 5 := by omega
    have haN : m0 a ≠ none := fun z => by rw [I4.e] at z; cases z
    have hLt : (l.toNat + 1 : Nat) = l + 1 := by omega
    have na : ∀ {x}, m0 x = none → x ≠ a := fun h e => haN (e ▸ h)
    have hrl : ∀ {r : Row}, r.map (·.1) = ns.map (·.w) → (Row.kv r).length < sizeLine := fun h => by
      have := congrArg List.length h
      rw [List.length_map, List.length_map] at this
      show (List.map _ _).length < _
      rw [List.length_map]; exact small1000 (by omega)
    clear ez8 eat x8 y0 y1 R7 D7 npz npza ez hpz eq6 z0 z1 D6 x6 tw5 eq5 hN5 hqs Rx R x5 D5 DD nqa
    -- one: a number changed
    with_reducible refine i_seqK (WayP K c a L l w at_ s4 m0 ns 1) ?_ ?_
    · intro K2 hK
      have HL := (ina D8).e
      wtm_at "go"
      by_cases c1 : w = 1
      rotate_left
      · rw [decide_eq_false c1]
        wtm_at "go"
        exact hK _ _ ⟨s8, q, _, _, _, _, _, _, _, _, rfl, D8, nq, .inl R8⟩
      rw [decide_eq_true c1]
      wtm_at "go"
      by_cases cn : 0 < ds.length
      rotate_left
      · rw [decide_eq_false (show ¬ (0 : Int) < (ds.length : Int) by omega)]
        wtm_at "go"
        exact hK _ _ ⟨s8, q, _, _, _, _, _, _, _, _, rfl, D8, nq, .inl R8⟩
      rw [decide_eq_true (show (0 : Int) < (ds.length : Int) by omega)]
      wtm_at "go"
      refine spTaken.dm D8 (by omega) (by omega) fun u s9 M9 u0 u1 D9 x9 => ?_
      have H9 := ina D9
      obtain ⟨n, hn⟩ : ∃ n, ns[u.toNat]? = some n := ⟨ns[u.toNat]'(by omega), by simp [show u.toNat < ns.length by omega]⟩
      obtain ⟨d', hd', sp, rfl, esp⟩ := two_get H9.t hn
      have eat : atI ds u = some (.tup [.str n.w, .int n.b, .ref sp]) := by
        have := atI_nat (xs := ds) (j := u.toNat) hd'
        rw [show ((u.toNat : Nat) : Int) = u by omega] at this
        exact this
      refine i_subL H9.e eat ?_
      wtm_at "go"
      have R9 := R8.x nq x9 haN
      obtain ⟨qs, x, r, eq9, lqs, eax, ex, nx, hk⟩ := R9.row at0 (by omega)
      obtain ⟨v, hv⟩ := Row.lk (r := r) (k := n.w) (by rw [hk]; exact List.mem_map.mpr ⟨n, List.mem_of_getElem? hn, rfl⟩)
      refine i_subL (rd_L eq9) eax ?_
      wtm_at "go"
      refine i_subK (rd_K ex) (row_val hv) ?_
      wtm_at "go"
      refine spTaken.dm D9 (by decide) (by decide) fun u2 s10 M10 u20 u21 D10 x10 => ?_
      wtm_at "go"
      refine i_subL (rd_L (x10 _ _ eq9 (na nq))) eax ?_
      wtm_at "go"
      refine i_putK (kvs := Row.kv r) (x10 _ _ ex (na nx)) (hrl hk) ?_
      rw [Row.put_kv]
      exact hK _ _ ⟨s10, q, _, _, _, _, _, _, _, _, rfl, D10.put I4 nx (na nx), nq, .inl ((R9.x nq x10 haN).put (x10 _ _ ex (na nx)) (by rw [Row.put_keys (by rw [hk]; exact List.mem_map.mpr ⟨n, List.mem_of_getElem? hn, rfl⟩)]; exact hk))⟩
    clear D8 R8 nq
    rintro ρ M P0
    -- two: a row left out
    with_reducible refine i_seqK (WayP K c a L l w at_ s4 m0 ns 3) ?_ ?_
    · intro K2 hK
      obtain ⟨s', q, e4, e5, e6, e7, e8, e9, e12, e13, rfl, DD, nq, HR⟩ := P0
      wtm_at "go"
      by_cases c1 : w = 2
      rotate_left
      · rw [decide_eq_false c1]
        wtm_at "go"
        exact hK _ _ ⟨s', q, _, _, _, _, _, _, _, _, rfl, DD, nq, HR.imp id fun h => ⟨h.1, by omega⟩⟩
      rw [decide_eq_true c1]
      have R8 := HR.resolve_right fun h => by omega
      obtain ⟨qs, x, r, eq9, lqs, eax, ex, nx, hk⟩ := R8.row at0 (by omega)
      have eqr := rd_L eq9
      wtm_at "go"
      intro p1 hp1
      rw [cutL_map', cutL_pre' at0 (by omega)]
      have D1 := DD.new (o := .lst ((qs.take at_.toNat).map .ref)) hp1
      have s1 := (Sub.refl (m := M)).new (o := .lst ((qs.take at_.toNat).map .ref)) hp1
      have ep1 : mput M p1 (.lst ((qs.take at_.toNat).map .ref)) p1 = some (.lst ((qs.take at_.toNat).map .ref)) := mput_same
      generalize mput M p1 (.lst ((qs.take at_.toNat).map .ref)) = M1 at D1 s1 ep1 ⊢
      have eqr1 := rdM_le s1 eqr
      wtm_at "go"
      intro p2 hp2
      rw [cutL_map', cutL_suf2 (by omega) (by omega)]
      have D2 := D1.new (o := .lst ((qs.drop (at_ + 1).toNat).map .ref)) hp2
      have s2 := s1.new (o := .lst ((qs.drop (at_ + 1).toNat).map .ref)) hp2
      have ep12 : mput M1 p2 (.lst ((qs.drop (at_ + 1).toNat).map .ref)) p1 = _ := mput_new hp2 ep1
      have ep2 : mput M1 p2 (.lst ((qs.drop (at_ + 1).toNat).map .ref)) p2 = some (.lst ((qs.drop (at_ + 1).toNat).map .ref)) := mput_same
      generalize mput M1 p2 (.lst ((qs.drop (at_ + 1).toNat).map .ref)) = M2 at D2 s2 ep12 ep2 ⊢
      refine i_plusL ep12 ep2 (sl (by rw [List.length_map, List.length_map, List.length_take, List.length_drop]; omega)) ?_
      intro p3 hp3
      rw [← List.map_append]
      have D3 := D2.new (o := .lst ((qs.take at_.toNat ++ qs.drop (at_ + 1).toNat).map .ref)) hp3
      have s3 := s2.new (o := .lst ((qs.take at_.toNat ++ qs.drop (at_ + 1).toNat).map .ref)) hp3
      wtm_at "go"
      exact hK _ _ ⟨s', p3, _, _, _, _, _, _, _, _, rfl, D3, D2.fresh hp3, .inr ⟨GenW.two R8 s3 Hs.ok Hs.nd n3 (by omega) (by omega) eq9 mput_same, by omega⟩⟩
    clear P0
    rintro ρ M P0
    -- three: a row twice
    with_reducible refine i_seqK (WayP K c a L l w at_ s4 m0 ns 4) ?_ ?_
    · intro K2 hK
      obtain ⟨s', q, e4, e5, e6, e7, e8, e9, e12, e13, rfl, DD, nq, HR⟩ := P0
      wtm_at "go"
      by_cases c1 : w = 3
      rotate_left
      · rw [decide_eq_false c1]
        wtm_at "go"
        exact hK _ _ ⟨s', q, _, _, _, _, _, _, _, _, rfl, DD, nq, HR.imp id fun h => ⟨h.1, by omega⟩⟩
      rw [decide_eq_true c1]
      have R8 := HR.resolve_right fun h => by omega
      obtain ⟨qs, x, r, eq9, lqs, eax, ex, nx, hk⟩ := R8.row at0 (by omega)
      have eqr := rd_L eq9
      wtm_at "go"
      intro p1 hp1
      rw [cutL_map', cutL_pre' (by omega) (by omega)]
      have D1 := DD.new (o := .lst ((qs.take (at_ + 1).toNat).map .ref)) hp1
      have s1 := (Sub.refl (m := M)).new (o := .lst ((qs.take (at_ + 1).toNat).map .ref)) hp1
      have ep1 : mput M p1 (.lst ((qs.take (at_ + 1).toNat).map .ref)) p1 = some (.lst ((qs.take (at_ + 1).toNat).map .ref)) := mput_same
      generalize mput M p1 (.lst ((qs.take (at_ + 1).toNat).map .ref)) = M1 at D1 s1 ep1 ⊢
      have eqr1 := rdM_le s1 eqr
      wtm_at "go"
      intro p2 hp2
      rw [cutL_map', cutL_suf2 (by omega) (by omega)]
      have D2 := D1.new (o := .lst ((qs.drop at_.toNat).map .ref)) hp2
      have s2 := s1.new (o := .lst ((qs.drop at_.toNat).map .ref)) hp2
      have ep12 : mput M1 p2 (.lst ((qs.drop at_.toNat).map .ref)) p1 = _ := mput_new hp2 ep1
      have ep2 : mput M1 p2 (.lst ((qs.drop at_.toNat).map .ref)) p2 = some (.lst ((qs.drop at_.toNat).map .ref)) := mput_same
      generalize mput M1 p2 (.lst ((qs.drop at_.toNat).map .ref)) = M2 at D2 s2 ep12 ep2 ⊢
      refine i_plusL ep12 ep2 (sl (by rw [List.length_map, List.length_map, List.length_take, List.length_drop]; omega)) ?_
      intro p3 hp3
      rw [← List.map_append]
      have D3 := D2.new (o := .lst ((qs.take (at_ + 1).toNat ++ qs.drop at_.toNat).map .ref)) hp3
      have s3 := s2.new (o := .lst ((qs.take (at_ + 1).toNat ++ qs.drop at_.toNat).map .ref)) hp3
      wtm_at "go"
      exact hK _ _ ⟨s', p3, _, _, _, _, _, _, _, _, rfl, D3, D2.fresh hp3, .inr ⟨GenW.two R8 s3 Hs.ok Hs.nd n3 (by omega) (by omega) eq9 mput_same, by omega⟩⟩
    clear P0
    rintro ρ M P0
    -- four: a name more
    with_reducible refine i_seqK (WayP K c a L l w at_ s4 m0 ns 5) ?_ ?_
    · intro K2 hK
      obtain ⟨s', q, e4, e5, e6, e7, e8, e9, e12, e13, rfl, DD, nq, HR⟩ := P0
      wtm_at "go"
      by_cases c1 : w = 4
      rotate_left
      · rw [decide_eq_false c1]
        wtm_at "go"
        exact hK _ _ ⟨s', q, _, _, _, _, _, _, _, _, rfl, DD, nq, HR.imp id fun h => ⟨h.1, by omega⟩⟩
      rw [decide_eq_true c1]
      have R8 := HR.resolve_right fun h => by omega
      obtain ⟨qs, x, r, eq9, lqs, eax, ex, nx, hk⟩ := R8.row at0 (by omega)
      wtm_at "go"
      refine i_subL (rd_L eq9) eax ?_
      wtm_at "go"
      refine ⟨a, s', 11, rfl, DD.I.rd, B4.nx DD.n, by decide, ?_⟩
      refine i_putK (kvs := Row.kv r) ex (hrl hk) ?_
      rw [Row.put_kv]
      exact hK _ _ ⟨s', q, _, _, _, _, _, _, _, _, rfl, DD.put I4 nx (na nx), nq, .inr ⟨(R8.gen Hs.ok Hs.nd n3 (by omega)).put ex ((RowG.names Hs.ok Hs.nd n3 hk).put (wordOf_ok (B4.nx DD.n))), by omega⟩⟩
    clear P0
    rintro ρ M P0
    -- five: a name left out, or put behind
    with_reducible refine i_seqK (WayP K c a L l w at_ s4 m0 ns 6) ?_ ?_
    · intro K2 hK
      obtain ⟨s', q, e4, e5, e6, e7, e8, e9, e12, e13, rfl, DD, nq, HR⟩ := P0
      have HL := (ina DD).e
      wtm_at "go"
      by_cases c1 : w = 5
      rotate_left
      · rw [decide_eq_false c1]
        wtm_at "go"
        exact hK _ _ ⟨s', q, _, _, _, _, _, _, _, _, rfl, DD, nq, HR.imp id fun h => ⟨h.1, by omega⟩⟩
      rw [decide_eq_true c1]
      wtm_at "go"
      by_cases cn : 0 < ds.length
      rotate_left
      · rw [decide_eq_false (show ¬ (0 : Int) < (ds.length : Int) by omega)]
        wtm_at "go"
        exact hK _ _ ⟨s', q, _, _, _, _, _, _, _, _, rfl, DD, nq, HR.imp id fun h => ⟨h.1, by omega⟩⟩
      rw [decide_eq_true (show (0 : Int) < (ds.length : Int) by omega)]
      have R8 := HR.resolve_right fun h => by omega
      obtain ⟨qs, x, r, eq9, lqs, eax, ex, nx, hk⟩ := R8.row at0 (by omega)
      obtain ⟨n, hn⟩ : ∃ n, ns[0]? = some n := ⟨ns[0]'(by omega), by simp [show 0 < ns.length by omega]⟩
      obtain ⟨d', hd', sp, rfl, esp⟩ := two_get (ina DD).t hn
      have hmem : n.w ∈ r.map (·.1) := by rw [hk]; exact List.mem_map.mpr ⟨n, List.mem_of_getElem? hn, rfl⟩
      obtain ⟨v, hv⟩ := Row.lk hmem
      wtm_at "go"
      refine i_subL HL (atI_nat (j := 0) hd') ?_
      wtm_at "go"
      unfold wDPop
      wtm_at "go"
      refine i_subL (rd_L eq9) eax ?_
      wtm_at "go"
      refine ⟨⟨_, rd_K ex⟩, ?_⟩
      wtm_at "go"
      refine ⟨Row.kv r, .inr n.w, .int v, ex, rfl, row_val hv, ?_⟩
      rw [Row.drop_kv]
      have hG := (RowG.names Hs.ok Hs.nd n3 hk).drop (k := n.w)
      have D9 := DD.put (o := .dK (Row.kv (r.filter fun p => decide (p.1 ≠ n.w)))) I4 nx (na nx)
      have G9 : GenW m0 (mput M x (.dK (Row.kv (r.filter fun p => decide (p.1 ≠ n.w))))) q 8 := (R8.gen Hs.ok Hs.nd n3 (by omega)).put ex (hG.up (show 7 ≤ 8 by decide))
      have ex9 : mput M x (.dK (Row.kv (r.filter fun p => decide (p.1 ≠ n.w)))) x = some (Row.o (r.filter fun p => decide (p.1 ≠ n.w))) := mput_same
      have eq10 : mput M x (.dK (Row.kv (r.filter fun p => decide (p.1 ≠ n.w)))) q = some (.lst (qs.map .ref)) := (mput_ne (by rintro rfl; rw [ex] at eq9; cases eq9)).trans eq9
      generalize mput M x (.dK (Row.kv (r.filter fun p => decide (p.1 ≠ n.w)))) = M9 at D9 G9 ex9 eq10 ⊢
      wtm_at "go"
      refine spTaken.dm D9 (by decide) (by decide) fun u s10 M10 u0 u1 D10 x10 => ?_
      wtm_at "go"
      by_cases cu : u = 1
      rotate_left
      · rw [decide_eq_false cu]
        wtm_at "go"
        exact hK _ _ ⟨s10, q, _, _, _, _, _, _, _, _, rfl, D10, nq, .inr ⟨G9.x nq x10 haN, by omega⟩⟩
      rw [decide_eq_true cu]
      wtm_at "go"
      refine i_subL (rd_L (x10 _ _ eq10 (na nq))) eax ?_
      wtm_at "go"
      have hfl : (Row.kv (r.filter fun p => decide (p.1 ≠ n.w))).length < sizeLine := by
        have := hrl hk
        have h2 : (Row.kv (r.filter fun p => decide (p.1 ≠ n.w))).length ≤ (Row.kv r).length := by
          show (List.map _ _).length ≤ (List.map _ r).length
          rw [List.length_map, List.length_map]
          exact List.length_filter_le _ _
        omega
      refine i_putK (kvs := Row.kv (r.filter fun p => decide (p.1 ≠ n.w))) (x10 _ _ ex9 (na nx)) hfl ?_
      rw [Row.put_kv]
      exact hK _ _ ⟨s10, q, _, _, _, _, _, _, _, _, rfl, D10.put I4 nx (na nx), nq, .inr ⟨(G9.x nq x10 haN).put (x10 _ _ ex9 (na nx)) (hG.put (fz_wd (Hs.ok n (List.mem_of_getElem? hn)).w).2), by omega⟩⟩
    clear P0
    rintro ρ M P0
    obtain ⟨s', q, e4, e5, e6, e7, e8, e9, e12, e13, rfl, DD, nq, HR⟩ := P0
    have G0 : GenW m0 M q 8 := HR.elim (fun h => h.gen Hs.ok Hs.nd n3 (by omega)) fun h => h.1
    obtain ⟨qs, rows, eq, tw, hk, hN⟩ := G0
    have hqs := Paired.length tw
    have HM := ina DD
    wtm_at "go"
    refine ⟨_, rd_L eq, ?_⟩
    refine lcC_ind (fun rest acc N => ∃ (t : Nat) (rs : List Addr), t ≤ qs.length ∧ rest = (qs.map D.ref).drop t ∧ acc = rs.map .ref ∧ Sub M N ∧ Two (fun x (r : Row) => N x = some r.o) rs (rows.take t)) ⟨0, [], Nat.zero_le _, rfl, rfl, Sub.refl, .nil⟩ ?_ ?_
    rotate_left
    · rintro d rest acc N K2 hK ⟨t, rs, ht, er, rfl, sN, twN⟩
      obtain ⟨hd, er', ht⟩ := list_drop er
      rw [List.length_map] at ht
      refine ⟨rd_L (sN _ _ eq), ?_⟩
      obtain ⟨r, hr⟩ : ∃ r, rows[t]? = some r := ⟨rows[t]'(by omega), by simp [show t < rows.length by omega]⟩
      obtain ⟨x, hx, ex, nx⟩ := two_get tw hr
      rw [List.getElem?_map, hx] at hd
      cases hd
      have hrs := Paired.length twN
      rw [List.length_take] at hrs
      wtm_at "go"
      refine ⟨rfl, ?_⟩
      refine i_yes ?_
      rw [if_pos rfl]
      wtm_at "go"
      refine ⟨_, rd_K (sN _ _ ex), ?_⟩
      intro p hp
      refine ⟨sl (by rw [List.length_map]; omega), hK _ _ ⟨t + 1, rs ++ [p], ht, er', by rw [List.map_append]; rfl, sN.new hp, ?_⟩⟩
      rw [List.take_succ, hr]
      exact two_snoc (two_mono twN fun y r _ h => mput_new hp h) mput_same
    · rintro acc N ⟨t, rs, ht, er, rfl, sN, twN⟩
      have := list_nil er (by rw [List.length_map]; exact ht)
      rw [List.length_map, hqs] at this
      rw [this, List.take_length] at twN
      refine ⟨rd_L (sN _ _ eq), ?_⟩
      intro ph hph
      have s1 := sN.new (o := .lst (rs.map .ref)) hph
      have eph : mput N ph (.lst (rs.map .ref)) ph = some (.lst (rs.map .ref)) := mput_same
      have twh : Two (fun x (r : Row) => mput N ph (.lst (rs.map .ref)) x = some r.o) rs rows := two_mono twN fun x r _ h => mput_new hph h
      generalize mput N ph (.lst (rs.map .ref)) = N1 at s1 eph twh ⊢
      have H1 := HM.sub s1
      wtm_at "go"
      intro pm hpm
      refine make_in H1 l0 l1 hpm fun N2 s2 hMk => ?_
      wtm_at "go"
      obtain ⟨an, sn, ps, ep, -, -, -⟩ := hMk.e
      refine i_meth ep (mkF_no (by simp [ofString_inj]) (by simp [ofString_inj]) (by simp [ofString_inj]) (by simp [ofString_inj])) ?_
      wtm_at "go"
      refine ⟨pm, ph, l, ns, rs, rows, rfl, hMk, ⟨rd_L (s2 _ _ eph), two_mono twh fun x r _ h => s2 _ _ h, fun r hr => (hk r hr).ks, by omega⟩, fun N3 s3 => ?_⟩
      have s13 := (s1.trans s2).trans s3
      wtm_at "go"
      refine ⟨l, L, q, ds, ns, qs, rows, rfl, l0, l1, HM.sub s13, ⟨rd_L (s13 _ _ eq), two_mono tw fun x r _ h => s13 _ _ h.1, fun r hr => (hk r hr).ks, by omega⟩, fun N4 s4' => ?_⟩
      have s14 := s13.trans s4'
      wtm_at "go"
      refine ⟨_, _, _, rfl, by decide, ⟨0, by decide, .sc (.bl _ _)⟩, ?_⟩
      rw [lawFut_eq l0, decide_eq_true rfl]
      refine ⟨true, rfl, ?_⟩
      rw [if_pos rfl]
      wtm_at "go"
      refine i_eqL (rd_L (s4' _ _ (s3 _ _ (s2 _ _ eph)))) (rd_L (s14 _ _ eq)) (sameL_rows (two_mono twh fun x r _ h => s4' _ _ (s3 _ _ (s2 _ _ h))) (two_mono tw fun x r _ h => s14 _ _ h.1) fun r hr => (hk r hr).nd) ?_
      exact RtM.mk (q0 _)

set_option maxHeartbeats 0 in
theorem all_mk {l : PySem.W.OpenLaw} {w : World} {K : PySem.W.Frag} {h : Heap} {mg : Str → Option Value} {fa f_is_word f_must f_is_whole f__law_begun f__law_taken f__law_word f__law_number f__law_alike f__law_steps f__law_market f__law_is_future f_law f_Market___init__ f_Market_need_steps f_Market_row f_Market_nexts f_Market_futures f_Market_rows f_Market_is_future c_Market : Addr} (X : K.In h) (G : h.Ns mainGlobals mg) (hfa : mg "law" = some (.ref fa))
    {od_is_word an_is_word od_must an_must od_is_whole an_is_whole od__law_begun an__law_begun od__law_taken an__law_taken od__law_word an__law_word od__law_number an__law_number od__law_alike an__law_alike od__law_steps an__law_steps od__law_market an__law_market od__law_is_future an__law_is_future od_law an_law od_Market___init__ an_Market___init__ od_Market_need_steps an_Market_need_steps od_Market_row an_Market_row od_Market_nexts an_Market_nexts od_Market_futures an_Market_futures od_Market_rows an_Market_rows od_Market_is_future an_Market_is_future : Option Addr} {sl_is_word sl_must sl_is_whole sl__law_begun sl__law_taken sl__law_word sl__law_number sl__law_alike sl__law_steps sl__law_market sl__law_is_future sl_law sl_Market___init__ sl_Market_need_steps sl_Market_row sl_Market_nexts sl_Market_futures sl_Market_rows sl_Market_is_future : Array (Option Value)} {oc_is_word kV_is_word dc_is_word pm_is_word cd_is_word ct_is_word oc_must kV_must dc_must pm_must cd_must ct_must oc_is_whole kV_is_whole dc_is_whole pm_is_whole cd_is_whole ct_is_whole oc__law_begun kV__law_begun dc__law_begun pm__law_begun cd__law_begun ct__law_begun oc__law_taken kV__law_taken dc__law_taken pm__law_taken cd__law_taken ct__law_taken oc__law_word kV__law_word dc__law_word pm__law_word cd__law_word ct__law_word oc__law_number kV__law_number dc__law_number pm__law_number cd__law_number ct__law_number oc__law_alike kV__law_alike dc__law_alike pm__law_alike cd__law_alike ct__law_alike oc__law_steps kV__law_steps dc__law_steps pm__law_steps cd__law_steps ct__law_steps oc__law_market kV__law_market dc__law_market pm__law_market cd__law_market ct__law_market oc__law_is_future kV__law_is_future dc__law_is_future pm__law_is_future cd__law_is_future ct__law_is_future oc_law kV_law dc_law pm_law cd_law ct_law oc_Market___init__ kV_Market___init__ dc_Market___init__ pm_Market___init__ cd_Market___init__ ct_Market___init__ oc_Market_need_steps kV_Market_need_steps dc_Market_need_steps pm_Market_need_steps cd_Market_need_steps ct_Market_need_steps oc_Market_row kV_Market_row dc_Market_row pm_Market_row cd_Market_row ct_Market_row oc_Market_nexts kV_Market_nexts dc_Market_nexts pm_Market_nexts cd_Market_nexts ct_Market_nexts oc_Market_futures kV_Market_futures dc_Market_futures pm_Market_futures cd_Market_futures ct_Market_futures oc_Market_rows kV_Market_rows dc_Market_rows pm_Market_rows cd_Market_rows ct_Market_rows oc_Market_is_future kV_Market_is_future dc_Market_is_future pm_Market_is_future cd_Market_is_future ct_Market_is_future : Value}
    (a_is_word : PySem.W.nsIn K mainGlobals "is_word" = some (some (.ref f_is_word))) (l_is_word : K.lookup f_is_word = some ⟨oc_is_word, od_is_word, .func (PySem.W.fnOf "is_word" "is_word" (defArgs s_is_word) (defBody s_is_word) (defScope s_is_word) .none kV_is_word dc_is_word pm_is_word an_is_word cd_is_word ct_is_word), sl_is_word⟩) (c_is_word : PySem.W.codeIn K cd_is_word "is_word" = true) (k_is_word : PySem.W.keepIn K (.ref f_is_word) = true)
    (a_must : PySem.W.nsIn K mainGlobals "must" = some (some (.ref f_must))) (l_must : K.lookup f_must = some ⟨oc_must, od_must, .func (PySem.W.fnOf "must" "must" (defArgs s_must) (defBody s_must) (defScope s_must) .none kV_must dc_must pm_must an_must cd_must ct_must), sl_must⟩) (c_must : PySem.W.codeIn K cd_must "must" = true) (k_must : PySem.W.keepIn K (.ref f_must) = true)
    (a_is_whole : PySem.W.nsIn K mainGlobals "is_whole" = some (some (.ref f_is_whole))) (l_is_whole : K.lookup f_is_whole = some ⟨oc_is_whole, od_is_whole, .func (PySem.W.fnOf "is_whole" "is_whole" (defArgs s_is_whole) (defBody s_is_whole) (defScope s_is_whole) .none kV_is_whole dc_is_whole pm_is_whole an_is_whole cd_is_whole ct_is_whole), sl_is_whole⟩) (c_is_whole : PySem.W.codeIn K cd_is_whole "is_whole" = true) (k_is_whole : PySem.W.keepIn K (.ref f_is_whole) = true)
    (a__law_begun : PySem.W.nsIn K mainGlobals "_law_begun" = some (some (.ref f__law_begun))) (l__law_begun : K.lookup f__law_begun = some ⟨oc__law_begun, od__law_begun, .func (PySem.W.fnOf "_law_begun" "_law_begun" (defArgs s__law_begun) (defBody s__law_begun) (defScope s__law_begun) .none kV__law_begun dc__law_begun pm__law_begun an__law_begun cd__law_begun ct__law_begun), sl__law_begun⟩) (c__law_begun : PySem.W.codeIn K cd__law_begun "_law_begun" = true) (k__law_begun : PySem.W.keepIn K (.ref f__law_begun) = true)
    (a__law_taken : PySem.W.nsIn K mainGlobals "_law_taken" = some (some (.ref f__law_taken))) (l__law_taken : K.lookup f__law_taken = some ⟨oc__law_taken, od__law_taken, .func (PySem.W.fnOf "_law_taken" "_law_taken" (defArgs s__law_taken) (defBody s__law_taken) (defScope s__law_taken) .none kV__law_taken dc__law_taken pm__law_taken an__law_taken cd__law_taken ct__law_taken), sl__law_taken⟩) (c__law_taken : PySem.W.codeIn K cd__law_taken "_law_taken" = true) (k__law_taken : PySem.W.keepIn K (.ref f__law_taken) = true)
    (a__law_word : PySem.W.nsIn K mainGlobals "_law_word" = some (some (.ref f__law_word))) (l__law_word : K.lookup f__law_word = some ⟨oc__law_word, od__law_word, .func (PySem.W.fnOf "_law_word" "_law_word" (defArgs s__law_word) (defBody s__law_word) (defScope s__law_word) .none kV__law_word dc__law_word pm__law_word an__law_word cd__law_word ct__law_word), sl__law_word⟩) (c__law_word : PySem.W.codeIn K cd__law_word "_law_word" = true) (k__law_word : PySem.W.keepIn K (.ref f__law_word) = true)
    (a__law_number : PySem.W.nsIn K mainGlobals "_law_number" = some (some (.ref f__law_number))) (l__law_number : K.lookup f__law_number = some ⟨oc__law_number, od__law_number, .func (PySem.W.fnOf "_law_number" "_law_number" (defArgs s__law_number) (defBody s__law_number) (defScope s__law_number) .none kV__law_number dc__law_number pm__law_number an__law_number cd__law_number ct__law_number), sl__law_number⟩) (c__law_number : PySem.W.codeIn K cd__law_number "_law_number" = true) (k__law_number : PySem.W.keepIn K (.ref f__law_number) = true)
    (a__law_alike : PySem.W.nsIn K mainGlobals "_law_alike" = some (some (.ref f__law_alike))) (l__law_alike : K.lookup f__law_alike = some ⟨oc__law_alike, od__law_alike, .func (PySem.W.fnOf "_law_alike" "_law_alike" (defArgs s__law_alike) (defBody s__law_alike) (defScope s__law_alike) .none kV__law_alike dc__law_alike pm__law_alike an__law_alike cd__law_alike ct__law_alike), sl__law_alike⟩) (c__law_alike : PySem.W.codeIn K cd__law_alike "_law_alike" = true) (k__law_alike : PySem.W.keepIn K (.ref f__law_alike) = true)
    (a__law_steps : PySem.W.nsIn K mainGlobals "_law_steps" = some (some (.ref f__law_steps))) (l__law_steps : K.lookup f__law_steps = some ⟨oc__law_steps, od__law_steps, .func (PySem.W.fnOf "_law_steps" "_law_steps" (defArgs s__law_steps) (defBody s__law_steps) (defScope s__law_steps) .none kV__law_steps dc__law_steps pm__law_steps an__law_steps cd__law_steps ct__law_steps), sl__law_steps⟩) (c__law_steps : PySem.W.codeIn K cd__law_steps "_law_steps" = true) (k__law_steps : PySem.W.keepIn K (.ref f__law_steps) = true)
    (a__law_market : PySem.W.nsIn K mainGlobals "_law_market" = some (some (.ref f__law_market))) (l__law_market : K.lookup f__law_market = some ⟨oc__law_market, od__law_market, .func (PySem.W.fnOf "_law_market" "_law_market" (defArgs s__law_market) (defBody s__law_market) (defScope s__law_market) .none kV__law_market dc__law_market pm__law_market an__law_market cd__law_market ct__law_market), sl__law_market⟩) (c__law_market : PySem.W.codeIn K cd__law_market "_law_market" = true) (k__law_market : PySem.W.keepIn K (.ref f__law_market) = true)
    (a__law_is_future : PySem.W.nsIn K mainGlobals "_law_is_future" = some (some (.ref f__law_is_future))) (l__law_is_future : K.lookup f__law_is_future = some ⟨oc__law_is_future, od__law_is_future, .func (PySem.W.fnOf "_law_is_future" "_law_is_future" (defArgs s__law_is_future) (defBody s__law_is_future) (defScope s__law_is_future) .none kV__law_is_future dc__law_is_future pm__law_is_future an__law_is_future cd__law_is_future ct__law_is_future), sl__law_is_future⟩) (c__law_is_future : PySem.W.codeIn K cd__law_is_future "_law_is_future" = true) (k__law_is_future : PySem.W.keepIn K (.ref f__law_is_future) = true)
    (a_law : PySem.W.nsIn K mainGlobals "law" = some (some (.ref f_law))) (l_law : K.lookup f_law = some ⟨oc_law, od_law, .func (PySem.W.fnOf "law" "law" (defArgs s_law) (defBody s_law) (defScope s_law) .none kV_law dc_law pm_law an_law cd_law ct_law), sl_law⟩) (c_law : PySem.W.codeIn K cd_law "law" = true) (k_law : PySem.W.keepIn K (.ref f_law) = true)
    (aC_Market : PySem.W.nsIn K mainGlobals "Market" = some (some (.ref c_Market))) (pg_Market : PySem.W.plainGet K c_Market Str.empty = true) (hd_Market : PySem.W.hasDictIn K c_Market = true) (po_Market : PySem.W.plainOver K c_Market = true) (sa_Market : PySem.W.findIn K (.ref c_Market) "__setattr__" = some (some (.builtin "object.__setattr__"))) (mk_Market : PySem.W.makesIn K c_Market = true) (kc_Market : PySem.W.keepIn K (.ref c_Market) = true)
    (n_Market_last : PySem.W.findIn K (.ref c_Market) "last" = some none)
    (n_Market_names : PySem.W.findIn K (.ref c_Market) "names" = some none)
    (n_Market_steps : PySem.W.findIn K (.ref c_Market) "steps" = some none)
    (n_Market_begun : PySem.W.findIn K (.ref c_Market) "begun" = some none)
    (at_Market___init__ : PySem.W.findIn K (.ref c_Market) "__init__" = some (some (.ref f_Market___init__)))
    (at_Market_need_steps : PySem.W.findIn K (.ref c_Market) "need_steps" = some (some (.ref f_Market_need_steps)))
    (at_Market_row : PySem.W.findIn K (.ref c_Market) "row" = some (some (.ref f_Market_row)))
    (at_Market_nexts : PySem.W.findIn K (.ref c_Market) "nexts" = some (some (.ref f_Market_nexts)))
    (at_Market_futures : PySem.W.findIn K (.ref c_Market) "futures" = some (some (.ref f_Market_futures)))
    (at_Market_rows : PySem.W.findIn K (.ref c_Market) "rows" = some (some (.ref f_Market_rows)))
    (at_Market_is_future : PySem.W.findIn K (.ref c_Market) "is_future" = some (some (.ref f_Market_is_future)))
    (l_Market___init__ : K.lookup f_Market___init__ = some ⟨oc_Market___init__, od_Market___init__, .func (PySem.W.fnOf "__init__" "Market.__init__" (defArgs s_Market___init__) (defBody s_Market___init__) (defScope s_Market___init__) .none kV_Market___init__ dc_Market___init__ pm_Market___init__ an_Market___init__ cd_Market___init__ ct_Market___init__), sl_Market___init__⟩) (c_Market___init__ : PySem.W.codeIn K cd_Market___init__ "Market.__init__" = true) (k_Market___init__ : PySem.W.keepIn K (.ref f_Market___init__) = true) (i_Market___init__ : PySem.W.isFn K (.ref f_Market___init__) = true)
    (l_Market_need_steps : K.lookup f_Market_need_steps = some ⟨oc_Market_need_steps, od_Market_need_steps, .func (PySem.W.fnOf "need_steps" "Market.need_steps" (defArgs s_Market_need_steps) (defBody s_Market_need_steps) (defScope s_Market_need_steps) .none kV_Market_need_steps dc_Market_need_steps pm_Market_need_steps an_Market_need_steps cd_Market_need_steps ct_Market_need_steps), sl_Market_need_steps⟩) (c_Market_need_steps : PySem.W.codeIn K cd_Market_need_steps "Market.need_steps" = true) (k_Market_need_steps : PySem.W.keepIn K (.ref f_Market_need_steps) = true) (i_Market_need_steps : PySem.W.isFn K (.ref f_Market_need_steps) = true)
    (l_Market_row : K.lookup f_Market_row = some ⟨oc_Market_row, od_Market_row, .func (PySem.W.fnOf "row" "Market.row" (defArgs s_Market_row) (defBody s_Market_row) (defScope s_Market_row) .none kV_Market_row dc_Market_row pm_Market_row an_Market_row cd_Market_row ct_Market_row), sl_Market_row⟩) (c_Market_row : PySem.W.codeIn K cd_Market_row "Market.row" = true) (k_Market_row : PySem.W.keepIn K (.ref f_Market_row) = true) (i_Market_row : PySem.W.isFn K (.ref f_Market_row) = true)
    (l_Market_nexts : K.lookup f_Market_nexts = some ⟨oc_Market_nexts, od_Market_nexts, .func (PySem.W.fnOf "nexts" "Market.nexts" (defArgs s_Market_nexts) (defBody s_Market_nexts) (defScope s_Market_nexts) .none kV_Market_nexts dc_Market_nexts pm_Market_nexts an_Market_nexts cd_Market_nexts ct_Market_nexts), sl_Market_nexts⟩) (c_Market_nexts : PySem.W.codeIn K cd_Market_nexts "Market.nexts" = true) (k_Market_nexts : PySem.W.keepIn K (.ref f_Market_nexts) = true) (i_Market_nexts : PySem.W.isFn K (.ref f_Market_nexts) = true)
    (l_Market_futures : K.lookup f_Market_futures = some ⟨oc_Market_futures, od_Market_futures, .func (PySem.W.fnOf "futures" "Market.futures" (defArgs s_Market_futures) (defBody s_Market_futures) (defScope s_Market_futures) .none kV_Market_futures dc_Market_futures pm_Market_futures an_Market_futures cd_Market_futures ct_Market_futures), sl_Market_futures⟩) (c_Market_futures : PySem.W.codeIn K cd_Market_futures "Market.futures" = true) (k_Market_futures : PySem.W.keepIn K (.ref f_Market_futures) = true) (i_Market_futures : PySem.W.isFn K (.ref f_Market_futures) = true)
    (l_Market_rows : K.lookup f_Market_rows = some ⟨oc_Market_rows, od_Market_rows, .func (PySem.W.fnOf "rows" "Market.rows" (defArgs s_Market_rows) (defBody s_Market_rows) (defScope s_Market_rows) .none kV_Market_rows dc_Market_rows pm_Market_rows an_Market_rows cd_Market_rows ct_Market_rows), sl_Market_rows⟩) (c_Market_rows : PySem.W.codeIn K cd_Market_rows "Market.rows" = true) (k_Market_rows : PySem.W.keepIn K (.ref f_Market_rows) = true) (i_Market_rows : PySem.W.isFn K (.ref f_Market_rows) = true)
    (l_Market_is_future : K.lookup f_Market_is_future = some ⟨oc_Market_is_future, od_Market_is_future, .func (PySem.W.fnOf "is_future" "Market.is_future" (defArgs s_Market_is_future) (defBody s_Market_is_future) (defScope s_Market_is_future) .none kV_Market_is_future dc_Market_is_future pm_Market_is_future an_Market_is_future cd_Market_is_future ct_Market_is_future), sl_Market_is_future⟩) (c_Market_is_future : PySem.W.codeIn K cd_Market_is_future "Market.is_future" = true) (k_Market_is_future : PySem.W.keepIn K (.ref f_Market_is_future) = true) (i_Market_is_future : PySem.W.isFn K (.ref f_Market_is_future) = true)
    {tk_SMALL : Tok} (g_SMALL : PySem.W.nsIn K mainGlobals "SMALL" = some (some (.str "abcdefghijklmnopqrstuvwxyz" tk_SMALL)))
    {tk_GREATEST : Tok} (g_GREATEST : PySem.W.nsIn K mainGlobals "GREATEST" = some (some (.int 1000000000000 tk_GREATEST)))
    {tk_MOST_LAST : Tok} (g_MOST_LAST : PySem.W.nsIn K mainGlobals "MOST_LAST" = some (some (.int 12 tk_MOST_LAST)))
    {tk_MOST_NAMES : Tok} (g_MOST_NAMES : PySem.W.nsIn K mainGlobals "MOST_NAMES" = some (some (.int 3 tk_MOST_NAMES)))
    {tk_MOST_STEPS : Tok} (g_MOST_STEPS : PySem.W.nsIn K mainGlobals "MOST_STEPS" = some (some (.int 4 tk_MOST_STEPS)))
    {tk_MOST_WEIGHT : Tok} (g_MOST_WEIGHT : PySem.W.nsIn K mainGlobals "MOST_WEIGHT" = some (some (.int 999 tk_MOST_WEIGHT)))
    {tk_MOST_FUTURES : Tok} (g_MOST_FUTURES : PySem.W.nsIn K mainGlobals "MOST_FUTURES" = some (some (.int 2000 tk_MOST_FUTURES)))
    {c_BookError : Addr} (xc_BookError : PySem.W.nsIn K mainGlobals "BookError" = some (some (.ref c_BookError)))
    (xg_BookError : PySem.W.findIn K (.ref c_BookError) "__getattribute__" = some (some (.builtin "BaseException.__getattribute__")))
    (xh_BookError : PySem.W.findIn K (.ref c_BookError) "__getattr__" = some none)
    (xs_BookError : PySem.W.subIn K (.ref c_BookError) (.type "BaseException") = some true)
    (xd_BookError : PySem.W.hasDictIn K c_BookError = true)
    (xa_BookError : PySem.W.findIn K (.ref c_BookError) "__class__" = some (some (.builtin "object.__class__")))
    (xm_BookError : PySem.W.mroIn K c_BookError (.type "object") = some true)
    (xq_BookError : PySem.W.excIn K c_BookError [.type "ValueError", .type "Exception", .type "BaseException", .type "object"] "ValueError.__new__" = true)
    (xk_BookError : PySem.W.keepIn K (.ref c_BookError) = true)
    (xt_BookError : PySem.W.typeIn K (.ref c_BookError) = some (.type "type"))
    {c_BadMarket : Addr} (xc_BadMarket : PySem.W.nsIn K mainGlobals "BadMarket" = some (some (.ref c_BadMarket)))
    (xg_BadMarket : PySem.W.findIn K (.ref c_BadMarket) "__getattribute__" = some (some (.builtin "BaseException.__getattribute__")))
    (xh_BadMarket : PySem.W.findIn K (.ref c_BadMarket) "__getattr__" = some none)
    (xs_BadMarket : PySem.W.subIn K (.ref c_BadMarket) (.type "BaseException") = some true)
    (xd_BadMarket : PySem.W.hasDictIn K c_BadMarket = true)
    (xa_BadMarket : PySem.W.findIn K (.ref c_BadMarket) "__class__" = some (some (.builtin "object.__class__")))
    (xm_BadMarket : PySem.W.mroIn K c_BadMarket (.type "object") = some true)
    (xq_BadMarket : PySem.W.excIn K c_BadMarket [.type "ValueError", .type "Exception", .type "BaseException", .type "object"] "ValueError.__new__" = true)
    (xk_BadMarket : PySem.W.keepIn K (.ref c_BadMarket) = true)
    (xt_BadMarket : PySem.W.typeIn K (.ref c_BadMarket) = some (.type "type"))
    {c_TooMany : Addr} (xc_TooMany : PySem.W.nsIn K mainGlobals "TooMany" = some (some (.ref c_TooMany)))
    (xg_TooMany : PySem.W.findIn K (.ref c_TooMany) "__getattribute__" = some (some (.builtin "BaseException.__getattribute__")))
    (xh_TooMany : PySem.W.findIn K (.ref c_TooMany) "__getattr__" = some none)
    (xs_TooMany : PySem.W.subIn K (.ref c_TooMany) (.type "BaseException") = some true)
    (xd_TooMany : PySem.W.hasDictIn K c_TooMany = true)
    (xa_TooMany : PySem.W.findIn K (.ref c_TooMany) "__class__" = some (some (.builtin "object.__class__")))
    (xm_TooMany : PySem.W.mroIn K c_TooMany (.type "object") = some true)
    (xq_TooMany : PySem.W.excIn K c_TooMany [.type "ValueError", .type "Exception", .type "BaseException", .type "object"] "ValueError.__new__" = true)
    (xk_TooMany : PySem.W.keepIn K (.ref c_TooMany) = true)
    (xt_TooMany : PySem.W.typeIn K (.ref c_TooMany) = some (.type "type"))
    (xn : PySem.W.specialIn K (.builtin "object.__class__") "__get__" = some (some (.builtin "getset_descriptor.__get__"))) (xt : PySem.W.takesIn K (.builtin "object.__class__") = some true)
    (xv_BadMarket : PySem.W.subIn K (.ref c_BadMarket) (.type "ValueError") = some true)
    (xs_BadMarket_BookError : PySem.W.subIn K (.ref c_BadMarket) (.ref c_BookError) = some true)
    (xs_BadMarket_BadMarket : PySem.W.subIn K (.ref c_BadMarket) (.ref c_BadMarket) = some true)
    (xs_BadMarket_TooMany : PySem.W.subIn K (.ref c_BadMarket) (.ref c_TooMany) = some false)
    (xv_TooMany : PySem.W.subIn K (.ref c_TooMany) (.type "ValueError") = some true)
    (xs_TooMany_BookError : PySem.W.subIn K (.ref c_TooMany) (.ref c_BookError) = some true)
    (xs_TooMany_BadMarket : PySem.W.subIn K (.ref c_TooMany) (.ref c_BadMarket) = some false)
    (xs_TooMany_TooMany : PySem.W.subIn K (.ref c_TooMany) (.ref c_TooMany) = some true)
    (xs_B : PySem.W.subIn K (.ref c_BookError) (.ref c_BookError) = some true)
    (z_ValueError : PySem.W.nsIn K mainGlobals "ValueError" = some none)
    (z_int : PySem.W.nsIn K mainGlobals "int" = some none)
    (z_isinstance : PySem.W.nsIn K mainGlobals "isinstance" = some none)
    (z_bool : PySem.W.nsIn K mainGlobals "bool" = some none)
    (z_str : PySem.W.nsIn K mainGlobals "str" = some none)
    (z_dict : PySem.W.nsIn K mainGlobals "dict" = some none)
    (z_all : PySem.W.nsIn K mainGlobals "all" = some none)
    (z_range : PySem.W.nsIn K mainGlobals "range" = some none)
    (z_tuple : PySem.W.nsIn K mainGlobals "tuple" = some none)
    (z_len : PySem.W.nsIn K mainGlobals "len" = some none)
    (z_max : PySem.W.nsIn K mainGlobals "max" = some none)
    (z_list : PySem.W.nsIn K mainGlobals "list" = some none)
    (z_min : PySem.W.nsIn K mainGlobals "min" = some none)
    (z_sorted : PySem.W.nsIn K mainGlobals "sorted" = some none)
    : ∃ fd : FuncData, (∀ (s : Shared) (v : Value), BindsTo s fd ⟨[v], []⟩ [("_law_script", v)]) ∧ ∀ base : Heap, K.In base → base.Ns mainGlobals mg → FnOk l.prog w K mg base CX0 (230) fa fd ["_law_script"] (liftSp K (spLaw K)) := by
  have e := hfa.symm.trans (PySem.W.mg_of X G a_law)
  cases e
  have F_is_word := fun_mk (st := s_is_word) l_is_word c_is_word k_is_word
  have D_is_word : Df K mg "is_word" f_is_word _ ["word"] := ⟨F_is_word.binds (ps := ["word"]) fun _ _ _ _ _ _ us hl => match us, hl with | [_], _ => rfl, k_is_word, PySem.W.mg_of X G a_is_word⟩
  have F_must := fun_mk (st := s_must) l_must c_must k_must
  have D_must : Df K mg "must" f_must _ ["good"] := ⟨F_must.binds (ps := ["good"]) fun _ _ _ _ _ _ us hl => match us, hl with | [_], _ => rfl, k_must, PySem.W.mg_of X G a_must⟩
  have F_is_whole := fun_mk (st := s_is_whole) l_is_whole c_is_whole k_is_whole
  have D_is_whole : Df K mg "is_whole" f_is_whole _ ["number", "least", "most"] := ⟨F_is_whole.binds (ps := ["number", "least", "most"]) fun _ _ _ _ _ _ us hl => match us, hl with | [_, _, _], _ => rfl, k_is_whole, PySem.W.mg_of X G a_is_whole⟩
  have F__law_begun := fun_mk (st := s__law_begun) l__law_begun c__law_begun k__law_begun
  have D__law_begun : Df K mg "_law_begun" f__law_begun _ ["_law_script"] := ⟨F__law_begun.binds (ps := ["_law_script"]) fun _ _ _ _ _ _ us hl => match us, hl with | [_], _ => rfl, k__law_begun, PySem.W.mg_of X G a__law_begun⟩
  have F__law_taken := fun_mk (st := s__law_taken) l__law_taken c__law_taken k__law_taken
  have D__law_taken : Df K mg "_law_taken" f__law_taken _ ["_law_s", "_law_most"] := ⟨F__law_taken.binds (ps := ["_law_s", "_law_most"]) fun _ _ _ _ _ _ us hl => match us, hl with | [_, _], _ => rfl, k__law_taken, PySem.W.mg_of X G a__law_taken⟩
  have F__law_word := fun_mk (st := s__law_word) l__law_word c__law_word k__law_word
  have D__law_word : Df K mg "_law_word" f__law_word _ ["_law_s", "_law_k"] := ⟨F__law_word.binds (ps := ["_law_s", "_law_k"]) fun _ _ _ _ _ _ us hl => match us, hl with | [_, _], _ => rfl, k__law_word, PySem.W.mg_of X G a__law_word⟩
  have F__law_number := fun_mk (st := s__law_number) l__law_number c__law_number k__law_number
  have D__law_number : Df K mg "_law_number" f__law_number _ ["_law_s"] := ⟨F__law_number.binds (ps := ["_law_s"]) fun _ _ _ _ _ _ us hl => match us, hl with | [_], _ => rfl, k__law_number, PySem.W.mg_of X G a__law_number⟩
  have F__law_alike := fun_mk (st := s__law_alike) l__law_alike c__law_alike k__law_alike
  have D__law_alike : Df K mg "_law_alike" f__law_alike _ ["_law_found", "_law_due"] := ⟨F__law_alike.binds (ps := ["_law_found", "_law_due"]) fun _ _ _ _ _ _ us hl => match us, hl with | [_, _], _ => rfl, k__law_alike, PySem.W.mg_of X G a__law_alike⟩
  have F__law_steps := fun_mk (st := s__law_steps) l__law_steps c__law_steps k__law_steps
  have D__law_steps : Df K mg "_law_steps" f__law_steps _ ["_law_s"] := ⟨F__law_steps.binds (ps := ["_law_s"]) fun _ _ _ _ _ _ us hl => match us, hl with | [_], _ => rfl, k__law_steps, PySem.W.mg_of X G a__law_steps⟩
  have F__law_market := fun_mk (st := s__law_market) l__law_market c__law_market k__law_market
  have D__law_market : Df K mg "_law_market" f__law_market _ ["_law_s", "_law_many"] := ⟨F__law_market.binds (ps := ["_law_s", "_law_many"]) fun _ _ _ _ _ _ us hl => match us, hl with | [_, _], _ => rfl, k__law_market, PySem.W.mg_of X G a__law_market⟩
  have F__law_is_future := fun_mk (st := s__law_is_future) l__law_is_future c__law_is_future k__law_is_future
  have D__law_is_future : Df K mg "_law_is_future" f__law_is_future _ ["_law_drawn", "_law_rows"] := ⟨F__law_is_future.binds (ps := ["_law_drawn", "_law_rows"]) fun _ _ _ _ _ _ us hl => match us, hl with | [_, _], _ => rfl, k__law_is_future, PySem.W.mg_of X G a__law_is_future⟩
  have F_law := fun_mk (st := s_law) l_law c_law k_law
  have F_Market___init__ := fun_mk (st := s_Market___init__) l_Market___init__ c_Market___init__ k_Market___init__
  have B_Market___init__ := F_Market___init__.binds (ps := ["self", "last", "names"]) fun _ _ _ _ _ _ us hl => match us, hl with | [_, _, _], _ => rfl
  have F_Market_need_steps := fun_mk (st := s_Market_need_steps) l_Market_need_steps c_Market_need_steps k_Market_need_steps
  have B_Market_need_steps := F_Market_need_steps.binds (ps := ["self", "steps"]) fun _ _ _ _ _ _ us hl => match us, hl with | [_, _], _ => rfl
  have F_Market_row := fun_mk (st := s_Market_row) l_Market_row c_Market_row k_Market_row
  have B_Market_row := F_Market_row.binds (ps := ["self", "values"]) fun _ _ _ _ _ _ us hl => match us, hl with | [_, _], _ => rfl
  have F_Market_nexts := fun_mk (st := s_Market_nexts) l_Market_nexts c_Market_nexts k_Market_nexts
  have B_Market_nexts := F_Market_nexts.binds (ps := ["self", "values"]) fun _ _ _ _ _ _ us hl => match us, hl with | [_, _], _ => rfl
  have F_Market_futures := fun_mk (st := s_Market_futures) l_Market_futures c_Market_futures k_Market_futures
  have B_Market_futures := F_Market_futures.binds (ps := ["self"]) fun _ _ _ _ _ _ us hl => match us, hl with | [_], _ => rfl
  have F_Market_rows := fun_mk (st := s_Market_rows) l_Market_rows c_Market_rows k_Market_rows
  have B_Market_rows := F_Market_rows.binds (ps := ["self", "path"]) fun _ _ _ _ _ _ us hl => match us, hl with | [_, _], _ => rfl
  have F_Market_is_future := fun_mk (st := s_Market_is_future) l_Market_is_future c_Market_is_future k_Market_is_future
  have B_Market_is_future := F_Market_is_future.binds (ps := ["self", "rows"]) fun _ _ _ _ _ _ us hl => match us, hl with | [_, _], _ => rfl
  have O_Market : ObK K c_Market ["last", "names", "steps", "begun"] := ⟨⟨pg_Market, hd_Market, po_Market, sa_Market⟩, (na_cons n_Market_last (na_cons n_Market_names (na_cons n_Market_steps (na_cons n_Market_begun na_nil))))⟩
  have C_Market : Dc K mg "Market" c_Market f_Market___init__ _ ["self", "last", "names"] := ⟨PySem.W.mg_of X G aC_Market, B_Market___init__, ⟨mk_Market, at_Market___init__, i_Market___init__, kc_Market⟩⟩
  have D_Market_need_steps : Dm K c_Market "need_steps" f_Market_need_steps _ ["self", "steps"] := ⟨O_Market.cl, B_Market_need_steps, ⟨at_Market_need_steps, i_Market_need_steps, k_Market_need_steps⟩⟩
  have D_Market_row : Dm K c_Market "row" f_Market_row _ ["self", "values"] := ⟨O_Market.cl, B_Market_row, ⟨at_Market_row, i_Market_row, k_Market_row⟩⟩
  have D_Market_nexts : Dm K c_Market "nexts" f_Market_nexts _ ["self", "values"] := ⟨O_Market.cl, B_Market_nexts, ⟨at_Market_nexts, i_Market_nexts, k_Market_nexts⟩⟩
  have D_Market_futures : Dm K c_Market "futures" f_Market_futures _ ["self"] := ⟨O_Market.cl, B_Market_futures, ⟨at_Market_futures, i_Market_futures, k_Market_futures⟩⟩
  have D_Market_rows : Dm K c_Market "rows" f_Market_rows _ ["self", "path"] := ⟨O_Market.cl, B_Market_rows, ⟨at_Market_rows, i_Market_rows, k_Market_rows⟩⟩
  have D_Market_is_future : Dm K c_Market "is_future" f_Market_is_future _ ["self", "rows"] := ⟨O_Market.cl, B_Market_is_future, ⟨at_Market_is_future, i_Market_is_future, k_Market_is_future⟩⟩
  have V : Gv K mg := { SMALL := ⟨.str "abcdefghijklmnopqrstuvwxyz", _, PySem.W.mg_of X G g_SMALL, ⟨_, rfl⟩, fun _ => Rep.str⟩, GREATEST := ⟨.int 1000000000000, _, PySem.W.mg_of X G g_GREATEST, ⟨_, rfl⟩, fun _ => Rep.int⟩, MOST_LAST := ⟨.int 12, _, PySem.W.mg_of X G g_MOST_LAST, ⟨_, rfl⟩, fun _ => Rep.int⟩, MOST_NAMES := ⟨.int 3, _, PySem.W.mg_of X G g_MOST_NAMES, ⟨_, rfl⟩, fun _ => Rep.int⟩, MOST_STEPS := ⟨.int 4, _, PySem.W.mg_of X G g_MOST_STEPS, ⟨_, rfl⟩, fun _ => Rep.int⟩, MOST_WEIGHT := ⟨.int 999, _, PySem.W.mg_of X G g_MOST_WEIGHT, ⟨_, rfl⟩, fun _ => Rep.int⟩, MOST_FUTURES := ⟨.int 2000, _, PySem.W.mg_of X G g_MOST_FUTURES, ⟨_, rfl⟩, fun _ => Rep.int⟩ }
  have XX : XcF K mg "BookError" c_BookError ∧ XcF K mg "BadMarket" c_BadMarket ∧ XcF K mg "TooMany" c_TooMany := ⟨⟨PySem.W.mg_of X G xc_BookError, xq_BookError, xk_BookError, xt_BookError, ⟨xg_BookError, xh_BookError, xs_BookError, xd_BookError, xa_BookError, xn, xt, xm_BookError⟩⟩, ⟨PySem.W.mg_of X G xc_BadMarket, xq_BadMarket, xk_BadMarket, xt_BadMarket, ⟨xg_BadMarket, xh_BadMarket, xs_BadMarket, xd_BadMarket, xa_BadMarket, xn, xt, xm_BadMarket⟩⟩, ⟨PySem.W.mg_of X G xc_TooMany, xq_TooMany, xk_TooMany, xt_TooMany, ⟨xg_TooMany, xh_TooMany, xs_TooMany, xd_TooMany, xa_TooMany, xn, xt, xm_TooMany⟩⟩⟩
  obtain ⟨X_BookError, X_BadMarket, X_TooMany⟩ := XX
  have XE : Xcs K mg c_BookError c_BadMarket c_TooMany := { X_BookError := X_BookError, X_BadMarket := X_BadMarket, X_TooMany := X_TooMany, e_BadMarket := X_BookError.exm xs_BadMarket_BookError, s_BadMarket := X_BadMarket.exm xs_BadMarket_BadMarket, v_BadMarket := kit_val xv_BadMarket, k_BadMarket_BookError := X_BookError.kit xs_BadMarket_BookError xs_B, k_BadMarket_BadMarket := X_BadMarket.kit xs_BadMarket_BadMarket xs_BadMarket_BadMarket, k_BadMarket_TooMany := X_TooMany.kit xs_BadMarket_TooMany xs_TooMany_TooMany, e_TooMany := X_BookError.exm xs_TooMany_BookError, s_TooMany := X_TooMany.exm xs_TooMany_TooMany, v_TooMany := kit_val xv_TooMany, k_TooMany_BookError := X_BookError.kit xs_TooMany_BookError xs_B, k_TooMany_BadMarket := X_BadMarket.kit xs_TooMany_BadMarket xs_BadMarket_BadMarket, k_TooMany_TooMany := X_TooMany.kit xs_TooMany_TooMany xs_TooMany_TooMany }
  have Z : Bl mg := ⟨PySem.W.mg_none_of X G z_ValueError, PySem.W.mg_none_of X G z_int, PySem.W.mg_none_of X G z_isinstance, PySem.W.mg_none_of X G z_bool, PySem.W.mg_none_of X G z_str, PySem.W.mg_none_of X G z_dict, PySem.W.mg_none_of X G z_all, PySem.W.mg_none_of X G z_range, PySem.W.mg_none_of X G z_tuple, PySem.W.mg_none_of X G z_len, PySem.W.mg_none_of X G z_max, PySem.W.mg_none_of X G z_list, PySem.W.mg_none_of X G z_min, PySem.W.mg_none_of X G z_sorted⟩
  refine ⟨PySem.W.fnOf "law" "law" (defArgs s_law) (defBody s_law) (defScope s_law) .none kV_law dc_law pm_law an_law cd_law ct_law, fun s v => .of_eq rfl, fun base _ _ => ?_⟩
  have G_must := gok_mmust (P := l.prog) (w := w) (base := base) (k := 10) XE F_must
  have G_is_word := gok_is_word (P := l.prog) (w := w) (base := base) (k := 10) V Z F_is_word
  have G_is_whole := ok_is_whole (P := l.prog) (w := w) (base := base) (k := 10) Z F_is_whole
  have G_Market_need_steps := ok_Market_need_steps V Z D_must G_must D_is_whole G_is_whole F_Market_need_steps
  have G_Market___init__ := ok_Market___init__ (k := 12) V Z O_Market D_must (G_must.mono (by omega)) D_is_whole (G_is_whole.mono (by omega)) D_is_word (G_is_word.mono (by omega)) D_Market_need_steps G_Market_need_steps F_Market___init__
  have G_Market_row := ok_Market_row (P := l.prog) (w := w) (base := base) (k := 10) Z O_Market F_Market_row
  have G_Market_nexts := ok_Market_nexts (P := l.prog) (w := w) (base := base) (k := 10) Z O_Market F_Market_nexts
  have G_Market_rows := ok_Market_rows (k := 12) Z O_Market D_Market_row (G_Market_row.mono (by omega)) F_Market_rows
  have G_Market_futures := ok_Market_futures (k := 14) V Z XE O_Market D_Market_nexts (G_Market_nexts.mono (by omega)) D_Market_rows (G_Market_rows.mono (by omega)) F_Market_futures
  have G_Market_is_future := ok_Market_is_future (k := 14) Z O_Market D_Market_nexts (G_Market_nexts.mono (by omega)) F_Market_is_future
  have G__law_taken := ok_law_taken (P := l.prog) (w := w) (base := base) Z (k := 10) F__law_taken
  have G__law_number := ok_law_number (P := l.prog) (w := w) (base := base) D__law_taken G__law_taken F__law_number
  have G__law_begun := ok_law_begun Z D__law_taken G__law_taken F__law_begun
  have G__law_word := ok_law_word (P := l.prog) (w := w) (base := base) Z (k := 10) F__law_word
  have G__law_steps := ok_law_steps Z D__law_taken G__law_taken F__law_steps
  have G__law_market := ok_law_market (k := 20) Z D__law_taken (G__law_taken.mono (by omega)) D__law_number (G__law_number.mono (by omega)) D__law_word (G__law_word.mono (by omega)) D__law_steps (G__law_steps.mono (by omega)) F__law_market
  have G__law_alike := fin_law_alikeB (P := l.prog) (w := w) (base := base) (c := 20) Z D__law_alike F__law_alike
  have G__law_is_future := ok_law_is_future (P := l.prog) (w := w) (base := base) (k := 10) Z F__law_is_future
  exact ok_law (k := 228) Z D__law_begun (G__law_begun.mono (by omega)) D__law_taken (G__law_taken.mono (by omega)) D__law_word (G__law_word.mono (by omega)) D__law_market (G__law_market.mono (by omega)) D__law_alike ((G__law_alike 6).mono (by omega)) D__law_is_future (G__law_is_future.mono (by omega)) C_Market (G_Market___init__.mono (by omega)) D_Market_is_future (G_Market_is_future.mono (by omega)) F_law
theorem walk {l : PySem.W.OpenLaw} {q : Program} {loose : List Str} {XP : (Str → Option Value) → Heap → Prop} {YP : World → Heap → Prop} {d : DefRec} {K : Params → PySem.W.Frag} (hn : l.most = some 63) (hdf : d.params.defaults = [])
    (hY : ∀ (w : World) (h : Heap), YP w h → (K w.params).In h)
    (F : ∀ (w : World) (mg : Str → Option Value) (fa : Addr) (h : Heap), (K w.params).In h → h.Ns mainGlobals mg → mg d.name = some (.ref fa) →
      ∃ fd : FuncData, (∀ (s : Shared) (u : Value), BindsTo s fd ⟨[u], []⟩ [("_law_script", u)]) ∧ ∀ base : Heap, (K w.params).In base → base.Ns mainGlobals mg → FnOk l.prog w (K w.params) mg base CX0 (230) fa fd ["_law_script"] (liftSp (K w.params) (spLaw (K w.params)))) :
    PySem.W.WalkO q loose XP YP l.row.toRowW d [] (fun f vs => PySem.call f vs) :=
  L2.walk_of (n := 63) (k := 230) (x := "_law_script") (CX := fun _ => CX0) (sp := fun w => liftSp (K w.params) (spLaw (K w.params))) hn (by decide) hdf ⟨rfl, by decide, by decide⟩ hY F (fun _ _ a ns hl _ hS => spLaw_start hl hS) fun _ _ _ _ _ z => z
end Mm
open PySem PySem.W PyProof.Rows
set_option maxRecDepth 100000 in
set_option maxHeartbeats 0 in
theorem PySem.Challenge.cw_contractbook_k06_futures_told_holds : PySem.Challenge.rw_contractbook_k06_futures_told.Holds := by
  w_on; o_law; k_head; (case hw => w_witness2)
  k_fill
  refine Mm.walk (l := PySem.Challenge.rw_contractbook_k06_futures_told) rfl rfl (fun w h Y => PySem.W.kIn_of Y) ?F
  case F =>
    intro w mg fa h KX G hmg
    refine' Mm.all_mk KX G hmg ?a_is_word ?l_is_word ?c_is_word ?k_is_word ?a_must ?l_must ?c_must ?k_must ?a_is_whole ?l_is_whole ?c_is_whole ?k_is_whole ?a__law_begun ?l__law_begun ?c__law_begun ?k__law_begun ?a__law_taken ?l__law_taken ?c__law_taken ?k__law_taken ?a__law_word ?l__law_word ?c__law_word ?k__law_word ?a__law_number ?l__law_number ?c__law_number ?k__law_number ?a__law_alike ?l__law_alike ?c__law_alike ?k__law_alike ?a__law_steps ?l__law_steps ?c__law_steps ?k__law_steps ?a__law_market ?l__law_market ?c__law_market ?k__law_market ?a__law_is_future ?l__law_is_future ?c__law_is_future ?k__law_is_future ?a_law ?l_law ?c_law ?k_law ?aC_Market ?pg_Market ?hd_Market ?po_Market ?sa_Market ?mk_Market ?kc_Market ?n_Market_last ?n_Market_names ?n_Market_steps ?n_Market_begun ?at_Market___init__ ?at_Market_need_steps ?at_Market_row ?at_Market_nexts ?at_Market_futures ?at_Market_rows ?at_Market_is_future ?l_Market___init__ ?c_Market___init__ ?k_Market___init__ ?i_Market___init__ ?l_Market_need_steps ?c_Market_need_steps ?k_Market_need_steps ?i_Market_need_steps ?l_Market_row ?c_Market_row ?k_Market_row ?i_Market_row ?l_Market_nexts ?c_Market_nexts ?k_Market_nexts ?i_Market_nexts ?l_Market_futures ?c_Market_futures ?k_Market_futures ?i_Market_futures ?l_Market_rows ?c_Market_rows ?k_Market_rows ?i_Market_rows ?l_Market_is_future ?c_Market_is_future ?k_Market_is_future ?i_Market_is_future ?g_SMALL ?g_GREATEST ?g_MOST_LAST ?g_MOST_NAMES ?g_MOST_STEPS ?g_MOST_WEIGHT ?g_MOST_FUTURES ?xc_BookError ?xg_BookError ?xh_BookError ?xs_BookError ?xd_BookError ?xa_BookError ?xm_BookError ?xq_BookError ?xk_BookError ?xt_BookError ?xc_BadMarket ?xg_BadMarket ?xh_BadMarket ?xs_BadMarket ?xd_BadMarket ?xa_BadMarket ?xm_BadMarket ?xq_BadMarket ?xk_BadMarket ?xt_BadMarket ?xc_TooMany ?xg_TooMany ?xh_TooMany ?xs_TooMany ?xd_TooMany ?xa_TooMany ?xm_TooMany ?xq_TooMany ?xk_TooMany ?xt_TooMany ?xn ?xt ?xv_BadMarket ?xs_BadMarket_BookError ?xs_BadMarket_BadMarket ?xs_BadMarket_TooMany ?xv_TooMany ?xs_TooMany_BookError ?xs_TooMany_BadMarket ?xs_TooMany_TooMany ?xs_B ?z_ValueError ?z_int ?z_isinstance ?z_bool ?z_str ?z_dict ?z_all ?z_range ?z_tuple ?z_len ?z_max ?z_list ?z_min ?z_sorted
    (case a_is_word => k_is)
    (case l_is_word => k_is)
    (case c_is_word => k_is)
    (case k_is_word => k_is)
    (case a_must => k_is)
    (case l_must => k_is)
    (case c_must => k_is)
    (case k_must => k_is)
    (case a_is_whole => k_is)
    (case l_is_whole => k_is)
    (case c_is_whole => k_is)
    (case k_is_whole => k_is)
    (case a__law_begun => k_is)
    (case l__law_begun => k_is)
    (case c__law_begun => k_is)
    (case k__law_begun => k_is)
    (case a__law_taken => k_is)
    (case l__law_taken => k_is)
    (case c__law_taken => k_is)
    (case k__law_taken => k_is)
    (case a__law_word => k_is)
    (case l__law_word => k_is)
    (case c__law_word => k_is)
    (case k__law_word => k_is)
    (case a__law_number => k_is)
    (case l__law_number => k_is)
    (case c__law_number => k_is)
    (case k__law_number => k_is)
    (case a__law_alike => k_is)
    (case l__law_alike => k_is)
    (case c__law_alike => k_is)
    (case k__law_alike => k_is)
    (case a__law_steps => k_is)
    (case l__law_steps => k_is)
    (case c__law_steps => k_is)
    (case k__law_steps => k_is)
    (case a__law_market => k_is)
    (case l__law_market => k_is)
    (case c__law_market => k_is)
    (case k__law_market => k_is)
    (case a__law_is_future => k_is)
    (case l__law_is_future => k_is)
    (case c__law_is_future => k_is)
    (case k__law_is_future => k_is)
    (case a_law => k_is)
    (case l_law => k_is)
    (case c_law => k_is)
    (case k_law => k_is)
    (case aC_Market => k_is)
    (case pg_Market => k_is)
    (case hd_Market => k_is)
    (case po_Market => k_is)
    (case sa_Market => k_is)
    (case mk_Market => k_is)
    (case kc_Market => k_is)
    (case n_Market_last => k_is)
    (case n_Market_names => k_is)
    (case n_Market_steps => k_is)
    (case n_Market_begun => k_is)
    (case at_Market___init__ => k_is)
    (case at_Market_need_steps => k_is)
    (case at_Market_row => k_is)
    (case at_Market_nexts => k_is)
    (case at_Market_futures => k_is)
    (case at_Market_rows => k_is)
    (case at_Market_is_future => k_is)
    (case l_Market___init__ => k_is)
    (case c_Market___init__ => k_is)
    (case k_Market___init__ => k_is)
    (case i_Market___init__ => k_is)
    (case l_Market_need_steps => k_is)
    (case c_Market_need_steps => k_is)
    (case k_Market_need_steps => k_is)
    (case i_Market_need_steps => k_is)
    (case l_Market_row => k_is)
    (case c_Market_row => k_is)
    (case k_Market_row => k_is)
    (case i_Market_row => k_is)
    (case l_Market_nexts => k_is)
    (case c_Market_nexts => k_is)
    (case k_Market_nexts => k_is)
    (case i_Market_nexts => k_is)
    (case l_Market_futures => k_is)
    (case c_Market_futures => k_is)
    (case k_Market_futures => k_is)
    (case i_Market_futures => k_is)
    (case l_Market_rows => k_is)
    (case c_Market_rows => k_is)
    (case k_Market_rows => k_is)
    (case i_Market_rows => k_is)
    (case l_Market_is_future => k_is)
    (case c_Market_is_future => k_is)
    (case k_Market_is_future => k_is)
    (case i_Market_is_future => k_is)
    (case g_SMALL => k_is)
    (case g_GREATEST => k_is)
    (case g_MOST_LAST => k_is)
    (case g_MOST_NAMES => k_is)
    (case g_MOST_STEPS => k_is)
    (case g_MOST_WEIGHT => k_is)
    (case g_MOST_FUTURES => k_is)
    (case xc_BookError => k_is)
    (case xg_BookError => k_is)
    (case xh_BookError => k_is)
    (case xs_BookError => k_is)
    (case xd_BookError => k_is)
    (case xa_BookError => k_is)
    (case xm_BookError => k_is)
    (case xq_BookError => k_exc)
    (case xk_BookError => k_is)
    (case xt_BookError => k_is)
    (case xc_BadMarket => k_is)
    (case xg_BadMarket => k_is)
    (case xh_BadMarket => k_is)
    (case xs_BadMarket => k_is)
    (case xd_BadMarket => k_is)
    (case xa_BadMarket => k_is)
    (case xm_BadMarket => k_is)
    (case xq_BadMarket => k_exc)
    (case xk_BadMarket => k_is)
    (case xt_BadMarket => k_is)
    (case xc_TooMany => k_is)
    (case xg_TooMany => k_is)
    (case xh_TooMany => k_is)
    (case xs_TooMany => k_is)
    (case xd_TooMany => k_is)
    (case xa_TooMany => k_is)
    (case xm_TooMany => k_is)
    (case xq_TooMany => k_exc)
    (case xk_TooMany => k_is)
    (case xt_TooMany => k_is)
    (case xn => k_is)
    (case xt => k_is)
    (case xv_BadMarket => k_is)
    (case xs_BadMarket_BookError => first | rfl | k_is)
    (case xs_BadMarket_BadMarket => first | rfl | k_is)
    (case xs_BadMarket_TooMany => first | rfl | k_is)
    (case xv_TooMany => k_is)
    (case xs_TooMany_BookError => first | rfl | k_is)
    (case xs_TooMany_BadMarket => first | rfl | k_is)
    (case xs_TooMany_TooMany => first | rfl | k_is)
    (case xs_B => first | rfl | k_is)
    (case z_ValueError => k_is)
    (case z_int => k_is)
    (case z_isinstance => k_is)
    (case z_bool => k_is)
    (case z_str => k_is)
    (case z_dict => k_is)
    (case z_all => k_is)
    (case z_range => k_is)
    (case z_tuple => k_is)
    (case z_len => k_is)
    (case z_max => k_is)
    (case z_list => k_is)
    (case z_min => k_is)
    (case z_sorted => k_is)
#print axioms PySem.Challenge.cw_contractbook_k06_futures_told_holds
