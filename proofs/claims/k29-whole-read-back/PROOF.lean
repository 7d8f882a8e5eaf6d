import PyProof.Rows.All
import Wide.All
import OpenK.AllK
import Wide.FinOn
import HandS.ForMost
import HandS.Wide
import HandS.IsInst
import KE.KeyNested
import HandS.TupAny
import HandS.DictComp
import HandS.Conv
import HandS.Deep
import HandS.FStr
import PyProof.StrBlock2
import HandS.More
import HandS.Text
import HandS.RaiseMore
import PyProof.FitsReplace
import KE.KSortTup
import HandS.Sort
import HandS.SortOrd
import HandS.SortRule
import HandS.Style
import HandS.DeepEq
import HandS.Flow
import HandS.ListEq
import PyProof.NeKinds
import HandS.Exc
import HandS.ExcOwn
import HandS.ExcIs
import HandS.WordsExc
import HandS.Finally
import KE.KEqNest
import PyProof.DictRoadsH
import PyProof.Rows.TupTab
import HandS.Zip
import PyProof.Rows.Chain
import HandS.Dict
import HandS.ExcCtx
import HandS.SuiteRaise
import HandS.RaiseFrom
import KE.KExcStr
import PyProof.SliceStr2
import HandS.Head0
import HandS.Head1
import HandS.Head2
import HandS.TupLe
import HandS.Hot
import HandS.HotCalls
import HandS.Iter
import HandS.Comp
import HandS.ExcInitHot
import HandS.Replace
import HandS.ReplaceList
import PySem.Challenge.RW_contractbook_k29_whole_read_back
set_option Elab.async false
set_option linter.all false
set_option maxRecDepth 100000
set_option maxHeartbeats 0
namespace Mm
open PySem L2
inductive D where
  | non | bl (b : Bool) | int (i : Int) | str (x : Str) | tup (ds : List D) | ref (a : Addr) | ty (n : String)
def TupAt (K : PySem.W.Frag) (H : Hp) (a : Addr) (xs : List V) (n : Nat) : Prop := H a = some (.tup xs) ∨ ((n = 1 ∨ n = 5) ∧ SqT K H a xs)
mutual
def Rep (K : PySem.W.Frag) (H : Hp) : D → V → Prop
  | .non, v => v = .non
  | .bl b, v => v = .bl b
  | .int i, v => v = .int i
  | .str x, v => v = .str x
  | .tup ds, v => ∃ a xs, v = .ref a ∧ TupAt K H a xs ds.length ∧ Reps K H ds xs
  | .ref a, v => v = .ref a
  | .ty n, v => v = .ty n
def Reps (K : PySem.W.Frag) (H : Hp) : List D → List V → Prop
  | [], xs => xs = []
  | d :: ds, xs => ∃ x r, xs = x :: r ∧ Rep K H d x ∧ Reps K H ds r
end
mutual
def nkD : NestedKey → D
  | .none => .non
  | .num i => .int i
  | .text x => .str x
  | .tup ks => .tup (nkDs ks)
def nkDs : List NestedKey → List D
  | [] => []
  | k :: ks => nkD k :: nkDs ks
end
def NDφ (w : World) (s : Addr) (xs : List (NestedKey × Addr × V)) : Heap → Prop := fun h => xs.length ≤ sizeLine ∧ (s == sysModules) = false ∧
  ∃ ys : List (NestedKey × Addr × Value), Paired (fun p q => p.1 = q.1 ∧ p.2.1 = q.2.1 ∧ RelV p.2.2 q.2.2) xs ys ∧
    ∃ o es ep, h.get? s = some o ∧ o.ExactDict ∧ o.data = .dict es ep ∧ es.toList = ys.map (fun y => (⟨y.1.hash w, .ref y.2.1, y.2.2⟩ : DictEntry)) ∧ (ys.map (·.1)).Nodup
inductive O where
  | lst (ds : List D) | dK (kvs : List (Key × D)) | dT (kvs : List (List Key × D)) | dN (w : World) (s : Addr) (kvs : List (NestedKey × D)) | ins (C : Addr) (fs : List (Str × D)) | frz (o : O)
abbrev Mem := Addr → Option O
def mput (m : Mem) (a : Addr) (o : O) : Mem := fun b => if b = a then some o else m b
theorem mput_same {m : Mem} {a : Addr} {o : O} : mput m a o a = some o := by unfold mput; rw [if_pos rfl]
theorem mput_ne {m : Mem} {a b : Addr} {o : O} (h : b ≠ a) : mput m a o b = m b := by unfold mput; rw [if_neg h]
theorem mput_mput {m : Mem} {a : Addr} {o u : O} : mput (mput m a o) a u = mput m a u := by funext b; unfold mput; split <;> rfl
theorem mput_self {m : Mem} {a : Addr} {o : O} (h : m a = some o) : mput m a o = m := by
  funext b; unfold mput; split
  · rename_i e; rw [e, h]
  · rfl
theorem mput_new {m : Mem} {p a : Addr} {o u : O} (hp : m p = none) (h : m a = some u) : mput m p o a = some u := by
  rw [mput_ne]; exact h
  rintro rfl; rw [hp] at h; cases h
def KVs (K : PySem.W.Frag) (H : Hp) {κ : Type} : List (κ × D) → List (κ × V) → Prop := Paired fun p q => p.1 = q.1 ∧ Rep K H p.2 q.2
def RepO (K : PySem.W.Frag) (H : Hp) : O → HO → Prop
  | .lst ds, u => ∃ xs, u = .lst xs ∧ Reps K H ds xs
  | .dK kvs, u => ∃ xs, u = .dK xs ∧ KVs K H kvs xs
  | .dT kvs, u => ∃ xs, u = .dT xs ∧ KVs K H kvs xs
  | .dN w s kvs, u => ∃ xs : List (NestedKey × Addr × V), u = .ext (NDφ w s xs) ∧ Paired (fun p q => p.1 = q.1 ∧ p.1.depth ≤ 8 ∧ Rep K H (nkD p.1) (.ref q.2.1) ∧ Rep K H p.2 q.2.2) kvs xs
  | .ins C fs, u => ∃ dx xs, u = .ins C dx xs ∧ KVs K H fs xs
  | .frz o, u => ∃ ob v, u = .frz ob v ∧ RepO K H o v
def RM (K : PySem.W.Frag) (H : Hp) (m : Mem) : Prop := ∀ a o, m a = some o → ∃ u, H a = some u ∧ RepO K H o u
def Nm (m : Mem) (a : Addr) : Prop := m a = none ∨ ∃ o, m a = some (.frz o)
def Step (m : Mem) (H : Hp) (m' : Mem) (H' : Hp) : Prop := ∀ a u, H a = some u → Nm m a → H' a = some u ∧ Nm m' a
def Sub (m m' : Mem) : Prop := ∀ a o, m a = some o → m' a = some o
section
variable {K : PySem.W.Frag} {H H' H1 : Hp} {m m' m1 : Mem}
theorem Step.refl : Step m H m H := fun _ _ h n => ⟨h, n⟩
theorem Step.trans (a : Step m H m1 H1) (b : Step m1 H1 m' H') : Step m H m' H' := fun x u h n => by
  obtain ⟨h1, n1⟩ := a x u h n
  exact b x u h1 n1
theorem Sub.refl : Sub m m := fun _ _ h => h
theorem Sub.trans (a : Sub m m1) (b : Sub m1 m') : Sub m m' := fun x o h => b x o (a x o h)
theorem Sub.nm (s : Sub m m') {a : Addr} (n : Nm m' a) : Nm m a := by
  cases e : m a with
  | none => exact .inl e
  | some o =>
    rcases n with n | ⟨o', n⟩
    · rw [s a o e] at n; cases n
    · rw [s a o e] at n; cases n; exact .inr ⟨_, e⟩
theorem RM.sub (r : RM K H m') (s : Sub m m') : RM K H m := fun a o h => r a o (s a o h)
theorem Step.sub (a : Step m H m' H') (s : Sub m1 m') : Step m H m1 H' := fun x u h n => by
  obtain ⟨h1, n1⟩ := a x u h n
  exact ⟨h1, s.nm n1⟩
theorem RM.out (r : RM K H m) {p : Addr} (h : H p = none) : m p = none := by
  cases e : m p with
  | none => rfl
  | some o => obtain ⟨u, h1, _⟩ := r p o e; rw [h] at h1; cases h1
theorem RM.nm_tup (r : RM K H m) {a : Addr} {xs : List V} (h : H a = some (.tup xs)) : Nm m a := by
  cases e : m a with
  | none => exact .inl e
  | some o =>
    obtain ⟨u, h1, h2⟩ := r a o e
    rw [h] at h1; cases h1
    cases o with
    | lst ds => obtain ⟨xs, z, _⟩ := h2; cases z
    | dK ds => obtain ⟨xs, z, _⟩ := h2; cases z
    | dT ds => obtain ⟨xs, z, _⟩ := h2; cases z
    | dN w s ds => obtain ⟨xs, z, _⟩ := h2; cases z
    | ins C ds => obtain ⟨dx, xs, z, _⟩ := h2; cases z
    | frz o => exact .inr ⟨_, e⟩
theorem RM.nm_frz (r : RM K H m) {a : Addr} {ob : Obj} {v : HO} (h : H a = some (.frz ob v)) : Nm m a := by
  cases e : m a with
  | none => exact .inl e
  | some o =>
    obtain ⟨u, h1, h2⟩ := r a o e
    rw [h] at h1; cases h1
    cases o with
    | lst ds => obtain ⟨xs, z, _⟩ := h2; cases z
    | dK ds => obtain ⟨xs, z, _⟩ := h2; cases z
    | dT ds => obtain ⟨xs, z, _⟩ := h2; cases z
    | dN w s ds => obtain ⟨xs, z, _⟩ := h2; cases z
    | ins C ds => obtain ⟨dx, xs, z, _⟩ := h2; cases z
    | frz o => exact .inr ⟨_, e⟩
def TupS (K : PySem.W.Frag) (H H' : Hp) : Prop := ∀ a xs n, TupAt K H a xs n → TupAt K H' a xs n
theorem TupAt.sq {a : Addr} {xs : List V} {n : Nat} (h : TupAt K H a xs n) : SqT K H a xs := h.elim (fun z => .inl (.inl z)) fun z => z.2
theorem TupAt.of {a : Addr} {xs : List V} {n : Nat} (h : H a = some (.tup xs)) : TupAt K H a xs n := .inl h
theorem Step.tups (r : RM K H m) (s : Step m H m' H') : TupS K H H' := fun a xs n h => by
  rcases h with h | ⟨z, h⟩
  · exact .inl (s a _ h (r.nm_tup h)).1
  refine .inr ⟨z, ?_⟩
  rcases h with (h | ⟨ob, h⟩) | h
  · exact .inl (.inl (s a _ h (r.nm_tup h)).1)
  · exact .inl (.inr ⟨ob, (s a _ h (r.nm_frz h)).1⟩)
  · exact .inr h
mutual
theorem Rep.stay (t : TupS K H H') : ∀ {d : D} {v : V}, Rep K H d v → Rep K H' d v
  | .non, _, h => by unfold Rep at h ⊢; exact h
  | .bl _, _, h => by unfold Rep at h ⊢; exact h
  | .int _, _, h => by unfold Rep at h ⊢; exact h
  | .str _, _, h => by unfold Rep at h ⊢; exact h
  | .ref _, _, h => by unfold Rep at h ⊢; exact h
  | .ty _, _, h => by unfold Rep at h ⊢; exact h
  | .tup ds, _, h => by
    unfold Rep at h ⊢
    obtain ⟨a, xs, e, s, r⟩ := h
    exact ⟨a, xs, e, t a xs _ s, Reps.stay t r⟩
theorem Reps.stay (t : TupS K H H') : ∀ {ds : List D} {vs : List V}, Reps K H ds vs → Reps K H' ds vs
  | [], _, h => by unfold Reps at h ⊢; exact h
  | d :: ds, _, h => by
    unfold Reps at h ⊢
    obtain ⟨x, r, e, h1, h2⟩ := h
    exact ⟨x, r, e, Rep.stay t h1, Reps.stay t h2⟩
end
theorem KVs.stay (t : TupS K H H') {κ : Type} : ∀ {a : List (κ × D)} {b : List (κ × V)}, KVs K H a b → KVs K H' a b
  | _, _, .nil => .nil
  | _, _, .cons h r => .cons ⟨h.1, h.2.stay t⟩ (KVs.stay t r)
theorem KNs.stay (t : TupS K H H') : ∀ {a : List (NestedKey × D)} {b : List (NestedKey × Addr × V)}, Paired (fun p q => p.1 = q.1 ∧ p.1.depth ≤ 8 ∧ Rep K H (nkD p.1) (.ref q.2.1) ∧ Rep K H p.2 q.2.2) a b → Paired (fun p q => p.1 = q.1 ∧ p.1.depth ≤ 8 ∧ Rep K H' (nkD p.1) (.ref q.2.1) ∧ Rep K H' p.2 q.2.2) a b
  | _, _, .nil => .nil
  | _, _, .cons h r => .cons ⟨h.1, h.2.1, h.2.2.1.stay t, h.2.2.2.stay t⟩ (KNs.stay t r)
theorem RepO.stay (t : TupS K H H') : ∀ {o : O} {u : HO}, RepO K H o u → RepO K H' o u
  | .lst _, _, h => by obtain ⟨xs, e, r⟩ := h; exact ⟨xs, e, r.stay t⟩
  | .dK _, _, h => by obtain ⟨xs, e, r⟩ := h; exact ⟨xs, e, r.stay t⟩
  | .dT _, _, h => by obtain ⟨xs, e, r⟩ := h; exact ⟨xs, e, r.stay t⟩
  | .dN _ _ _, _, h => by obtain ⟨xs, e, r⟩ := h; exact ⟨xs, e, KNs.stay t r⟩
  | .ins _ _, _, h => by obtain ⟨dx, xs, e, r⟩ := h; exact ⟨dx, xs, e, r.stay t⟩
  | .frz _, _, h => by obtain ⟨ob, v, e, r⟩ := h; exact ⟨ob, v, e, r.stay t⟩
theorem Rep.bl_iff {b : Bool} {v : V} : Rep K H (.bl b) v ↔ v = .bl b := by unfold Rep; exact Iff.rfl
theorem Rep.int_iff {b : Int} {v : V} : Rep K H (.int b) v ↔ v = .int b := by unfold Rep; exact Iff.rfl
theorem Rep.str_iff {b : Str} {v : V} : Rep K H (.str b) v ↔ v = .str b := by unfold Rep; exact Iff.rfl
theorem Rep.non_iff {v : V} : Rep K H .non v ↔ v = .non := by unfold Rep; exact Iff.rfl
theorem Rep.ref_iff {b : Addr} {v : V} : Rep K H (.ref b) v ↔ v = .ref b := by unfold Rep; exact Iff.rfl
theorem Rep.ty_iff {b : String} {v : V} : Rep K H (.ty b) v ↔ v = .ty b := by unfold Rep; exact Iff.rfl
theorem Rep.tup_iff {ds : List D} {v : V} : Rep K H (.tup ds) v ↔ ∃ a xs, v = .ref a ∧ TupAt K H a xs ds.length ∧ Reps K H ds xs := by unfold Rep; exact Iff.rfl
theorem Rep.bl {b : Bool} : Rep K H (.bl b) (.bl b) := Rep.bl_iff.mpr rfl
theorem Rep.int {b : Int} : Rep K H (.int b) (.int b) := Rep.int_iff.mpr rfl
theorem Rep.str {b : Str} : Rep K H (.str b) (.str b) := Rep.str_iff.mpr rfl
theorem Rep.non : Rep K H .non .non := Rep.non_iff.mpr rfl
theorem Rep.ref {b : Addr} : Rep K H (.ref b) (.ref b) := Rep.ref_iff.mpr rfl
theorem Rep.ty {b : String} : Rep K H (.ty b) (.ty b) := Rep.ty_iff.mpr rfl
theorem Reps.nil_iff {vs : List V} : Reps K H [] vs ↔ vs = [] := by unfold Reps; exact Iff.rfl
theorem Reps.cons_iff {d : D} {ds : List D} {vs : List V} : Reps K H (d :: ds) vs ↔ ∃ x r, vs = x :: r ∧ Rep K H d x ∧ Reps K H ds r := by
  conv => lhs; unfold Reps
theorem Reps.nil : Reps K H [] [] := Reps.nil_iff.mpr rfl
theorem Reps.cons {d : D} {ds : List D} {v : V} {vs : List V} (h : Rep K H d v) (r : Reps K H ds vs) : Reps K H (d :: ds) (v :: vs) := Reps.cons_iff.mpr ⟨v, vs, rfl, h, r⟩
theorem Reps.length : ∀ {ds : List D} {vs : List V}, Reps K H ds vs → ds.length = vs.length
  | [], _, h => by rw [Reps.nil_iff.mp h]; rfl
  | d :: ds, _, h => by
    obtain ⟨x, r, e, _, h2⟩ := Reps.cons_iff.mp h
    subst e
    simp [Reps.length h2]
theorem Reps.get : ∀ {ds : List D} {vs : List V} {i : Nat} {d : D}, Reps K H ds vs → ds[i]? = some d → ∃ v, vs[i]? = some v ∧ Rep K H d v
  | [], _, _, _, _, e => by simp at e
  | x :: ds, _, i, d, h, e => by
    obtain ⟨v, r, e2, h1, h2⟩ := Reps.cons_iff.mp h
    subst e2
    cases i with
    | zero =>
      have : x = d := by simpa using e
      subst this; exact ⟨v, by simp, h1⟩
    | succ i =>
      obtain ⟨v', a, b⟩ := Reps.get (i := i) (d := d) h2 (by simpa using e)
      exact ⟨v', by simpa using a, b⟩
theorem Reps.append : ∀ {ds es : List D} {vs ws : List V}, Reps K H ds vs → Reps K H es ws → Reps K H (ds ++ es) (vs ++ ws)
  | [], _, _, _, h, k => by rw [Reps.nil_iff.mp h]; exact k
  | x :: ds, es, _, ws, h, k => by
    obtain ⟨v, r, e2, h1, h2⟩ := Reps.cons_iff.mp h
    subst e2
    exact Reps.cons h1 (Reps.append h2 k)
theorem Reps.take : ∀ {ds : List D} {vs : List V} (n : Nat), Reps K H ds vs → Reps K H (ds.take n) (vs.take n)
  | [], _, _, h => by rw [Reps.nil_iff.mp h]; simp; exact Reps.nil
  | x :: ds, _, n, h => by
    obtain ⟨v, r, e2, h1, h2⟩ := Reps.cons_iff.mp h
    subst e2
    cases n with
    | zero => exact Reps.nil
    | succ n => exact Reps.cons h1 (Reps.take n h2)
theorem Reps.drop : ∀ {ds : List D} {vs : List V} (n : Nat), Reps K H ds vs → Reps K H (ds.drop n) (vs.drop n)
  | [], _, _, h => by rw [Reps.nil_iff.mp h]; simp; exact Reps.nil
  | x :: ds, _, n, h => by
    obtain ⟨v, r, e2, h1, h2⟩ := Reps.cons_iff.mp h
    subst e2
    cases n with
    | zero => exact Reps.cons h1 h2
    | succ n => exact Reps.drop n h2
theorem Reps.set {d : D} {v : V} (hd : Rep K H d v) : ∀ {ds : List D} {vs : List V} (n : Nat), Reps K H ds vs → Reps K H (ds.set n d) (vs.set n v)
  | [], _, _, h => by rw [Reps.nil_iff.mp h]; simp; exact Reps.nil
  | x :: ds, _, n, h => by
    obtain ⟨v, r, e2, h1, h2⟩ := Reps.cons_iff.mp h
    subst e2
    cases n with
    | zero => exact Reps.cons hd h2
    | succ n => exact Reps.cons h1 (Reps.set hd n h2)
theorem Reps.ints (ns : List Int) : Reps K H (ns.map .int) (ns.map .int) := by
  induction ns with
  | nil => exact Reps.nil
  | cons n r ih => exact Reps.cons Rep.int ih
theorem Step.new (r : RM K H m) {p : Addr} {o : O} {u : HO} (h : H p = none) : Step m H (mput m p o) (upd H p u) := fun a v e n => by
  have ne : a ≠ p := by rintro rfl; rw [h] at e; cases e
  refine ⟨by rw [upd_ne ne]; exact e, ?_⟩
  rcases n with n | ⟨o', n⟩
  · exact .inl (by rw [mput_ne ne]; exact n)
  · exact .inr ⟨o', by rw [mput_ne ne]; exact n⟩
theorem Step.hid (r : RM K H m) {p : Addr} {u : HO} (h : H p = none) : Step m H m (upd H p u) := fun a v e n => by
  have ne : a ≠ p := by rintro rfl; rw [h] at e; cases e
  exact ⟨by rw [upd_ne ne]; exact e, n⟩
theorem RM.hid (r : RM K H m) {p : Addr} {u : HO} (h : H p = none) : RM K (upd H p u) m := fun a o e => by
  obtain ⟨v, h1, h2⟩ := r a o e
  have ne : a ≠ p := by rintro rfl; rw [h] at h1; cases h1
  exact ⟨v, by rw [upd_ne ne]; exact h1, h2.stay ((Step.hid (u := u) r h).tups r)⟩
theorem RM.new (r : RM K H m) {p : Addr} {o : O} {u : HO} (h : H p = none) (x : RepO K H o u) : RM K (upd H p u) (mput m p o) := fun a o' e => by
  have t := (Step.hid (u := u) r h).tups r
  by_cases ne : a = p
  · subst ne
    rw [mput_same] at e; cases e
    exact ⟨u, upd_same, x.stay t⟩
  · rw [mput_ne ne] at e
    obtain ⟨v, h1, h2⟩ := r a o' e
    exact ⟨v, by rw [upd_ne ne]; exact h1, h2.stay t⟩
def Wr : O → Prop
  | .frz _ => False
  | _ => True
theorem nm_wr {a : Addr} {o : O} (h : m a = some o) (w : Wr o) : ¬ Nm m a := fun n => by
  rcases n with n | ⟨o', n⟩
  · rw [h] at n; cases n
  · rw [h] at n; cases n; exact w
theorem Step.put (r : RM K H m) {p : Addr} {o o0 : O} {u : HO} (h : m p = some o0) (w : Wr o0) : Step m H (mput m p o) (upd H p u) := fun a v e n => by
  have ne : a ≠ p := by rintro rfl; exact nm_wr h w n
  refine ⟨by rw [upd_ne ne]; exact e, ?_⟩
  rcases n with n | ⟨o', n⟩
  · exact .inl (by rw [mput_ne ne]; exact n)
  · exact .inr ⟨o', by rw [mput_ne ne]; exact n⟩
theorem RM.put (r : RM K H m) {p : Addr} {o o0 : O} {u : HO} (h : m p = some o0) (w : Wr o0) (x : RepO K H o u) : RM K (upd H p u) (mput m p o) := fun a o' e => by
  have t := (Step.put (u := u) (o := o) r h w).tups r
  by_cases ne : a = p
  · subst ne
    rw [mput_same] at e; cases e
    exact ⟨u, upd_same, x.stay t⟩
  · rw [mput_ne ne] at e
    obtain ⟨v, h1, h2⟩ := r a o' e
    exact ⟨v, by rw [upd_ne ne]; exact h1, h2.stay t⟩
end
abbrev StM := List (Option D)
def RepS (K : PySem.W.Frag) (H : Hp) : Option D → Option V → Prop
  | some d, some v => Rep K H d v
  | none, _ => True
  | _, _ => False
abbrev Ss (K : PySem.W.Frag) (H : Hp) : StM → St → Prop := Paired (RepS K H)
section
variable {K : PySem.W.Frag} {H H' : Hp} {m m' : Mem}
theorem Ss.stay (t : TupS K H H') : ∀ {ρ : StM} {σ : St}, Ss K H ρ σ → Ss K H' ρ σ
  | _, _, .nil => .nil
  | _, _, .cons (a := a) (b := b) h r => .cons (by
      cases a with
      | none => trivial
      | some d =>
        cases b with
        | none => exact h
        | some v => exact Rep.stay t h) (Ss.stay t r)
theorem Ss.get : ∀ {ρ : StM} {σ : St} {i : Nat} {d : D}, Ss K H ρ σ → ρ[i]? = some (some d) → ∃ v, σ[i]? = some (some v) ∧ Rep K H d v
  | _, _, _, _, .nil, e => by simp at e
  | _, _, i, d, .cons (a := a) (b := b) h r, e => by
    cases i with
    | zero =>
      have e' : a = some d := by simpa using e
      subst e'
      cases b with
      | none => exact h.elim
      | some v => exact ⟨v, by simp, h⟩
    | succ i =>
      obtain ⟨v, h1, h2⟩ := Ss.get (i := i) (d := d) r (by simpa using e)
      exact ⟨v, by simpa using h1, h2⟩
theorem Ss.set {d : D} {v : V} (hd : Rep K H d v) : ∀ {ρ : StM} {σ : St} (i : Nat), Ss K H ρ σ → Ss K H (ρ.set i (some d)) (σ.set i (some v))
  | _, _, _, .nil => .nil
  | _, _, 0, .cons h r => .cons hd r
  | _, _, i + 1, .cons h r => .cons h (Ss.set hd i r)
theorem Ss.setN {o : Option V} : ∀ {ρ : StM} {σ : St} (i : Nat), Ss K H ρ σ → Ss K H (ρ.set i none) (σ.set i o)
  | _, _, _, .nil => .nil
  | _, _, 0, .cons h r => .cons trivial r
  | _, _, i + 1, .cons h r => .cons h (Ss.setN i r)
def wipeM (ρ : StM) : List Nat → StM
  | [] => ρ
  | i :: r => (wipeM ρ r).set i none
theorem Ss.wipe {ρ : StM} {σ : St} (h : Ss K H ρ σ) : ∀ vs : List Nat, Ss K H (wipeM ρ vs) (wipe σ vs)
  | [] => h
  | i :: r => Ss.setN i (Ss.wipe h r)
end
end Mm
namespace Mm
open PySem L2
structure Bs where
  P : Mem → Hp → Prop
  cl : ∀ m H m' H', P m H → Step m H m' H' → P m' H'
abbrev KM := D → Mem → Prop
abbrev TEm := StM → Mem → KM → Prop
abbrev TTm := StM → Mem → (Bool → Mem → Prop) → Prop
abbrev TAm := StM → Mem → (List D → Mem → Prop) → Prop
structure EndsM where
  nx : StM → Mem → Prop
  rt : KM
  bk : StM → Mem → Prop := fun _ _ => False
  ct : StM → Mem → Prop := fun _ _ => False
abbrev TSm := EndsM → StM → Mem → Prop
def refAt (x : D) (k : Addr → Prop) : Prop := match x with
  | .ref a => k a
  | _ => False
def tupAt (x : D) (k : List D → Prop) : Prop := match x with
  | .tup ds => k ds
  | _ => False
def twoAt (ds : List D) (k : D → D → Prop) : Prop := match ds with
  | [x, y] => k x y
  | _ => False
def int1At (ds : List D) (k : Int → Prop) : Prop := match ds with
  | [.int i] => k i
  | _ => False
def int2At (ds : List D) (k : Int → Int → Prop) : Prop := match ds with
  | [.int i, .int j] => k i j
  | _ => False
abbrev TGm := D → StM → Mem → (StM → Mem → Prop) → Prop
abbrev TGsm := List D → StM → Mem → (StM → Mem → Prop) → Prop
structure At (K : PySem.W.Frag) (B : Bs) (σ : St) (H : Hp) (ρ : StM) (m : Mem) : Prop where
  s : Ss K H ρ σ
  r : RM K H m
  b : B.P m H
theorem At.step {K : PySem.W.Frag} {B : Bs} {σ : St} {H H' : Hp} {ρ : StM} {m m' : Mem} (a : At K B σ H ρ m) (r : RM K H' m') (t : Step m H m' H') : At K B σ H' ρ m' :=
  ⟨a.s.stay (t.tups a.r), r, B.cl _ _ _ _ a.b t⟩
theorem At.step' {K : PySem.W.Frag} {B : Bs} {σ σ' : St} {H H' : Hp} {ρ ρ' : StM} {m m' : Mem} (a : At K B σ H ρ m) (r : RM K H' m') (t : Step m H m' H') (s : Ss K H' ρ' σ') : At K B σ' H' ρ' m' :=
  ⟨s, r, B.cl _ _ _ _ a.b t⟩
section
variable (K : PySem.W.Frag) (B : Bs)
def uE (p : TEm) : TE := fun σ H Q => ∃ ρ m Qm, At K B σ H ρ m ∧ p ρ m Qm ∧ ∀ d m' v H', Qm d m' → RM K H' m' → Step m H m' H' → Rep K H' d v → Q v H'
def uT (p : TTm) : TT := fun σ H Q => ∃ ρ m Qm, At K B σ H ρ m ∧ p ρ m Qm ∧ ∀ d m' H', Qm d m' → RM K H' m' → Step m H m' H' → Q d H'
def uA (p : TAm) : TA := fun σ H Q => ∃ ρ m Qm, At K B σ H ρ m ∧ p ρ m Qm ∧ ∀ d m' v H', Qm d m' → RM K H' m' → Step m H m' H' → Reps K H' d v → Q v H'
def uN (σ : St → Hp → Prop) (m : Mem) (H : Hp) (n : StM → Mem → Prop) : Prop := ∀ ρ' m' σ' H', n ρ' m' → RM K H' m' → Step m H m' H' → Ss K H' ρ' σ' → σ σ' H'
def uS (p : TSm) : TS := fun D σ H => ∃ ρ m E, At K B σ H ρ m ∧ p E ρ m ∧ uN K D.nx m H E.nx ∧ (∀ d m' v H', E.rt d m' → RM K H' m' → Step m H m' H' → Rep K H' d v → D.rt v H') ∧ uN K D.bk m H E.bk ∧ uN K D.ct m H E.ct
def uG (g : TGm) : TG := fun v σ H Q => ∃ d ρ m Qm, Rep K H d v ∧ At K B σ H ρ m ∧ g d ρ m Qm ∧ uN K Q m H Qm
def uGs (g : TGsm) : TGs := fun v σ H Q => ∃ d ρ m Qm, Reps K H d v ∧ At K B σ H ρ m ∧ g d ρ m Qm ∧ uN K Q m H Qm
end
section
variable {X : Cx} {e : Expr} {st : Stmt} {es : List Expr} {sts : List Stmt}
theorem peImp {t t' : TE} (h : PE X e t) (i : ∀ σ H Q, t' σ H Q → t σ H Q) : PE X e t' := ⟨fun pins s σ H Q I q => h.run pins s σ H Q I (i _ _ _ q)⟩
theorem ptImp {t t' : TT} (h : PT X e t) (i : ∀ σ H Q, t' σ H Q → t σ H Q) : PT X e t' := ⟨fun pins s σ H Q I q => h.run pins s σ H Q I (i _ _ _ q)⟩
theorem pwImp {t t' : TT} (h : PW X e t) (i : ∀ σ H Q, t' σ H Q → t σ H Q) : PW X e t' := ⟨fun wh pins s σ H Q I q => h.run wh pins s σ H Q I (i _ _ _ q)⟩
theorem paImp {t t' : TA} (h : PA X es t) (i : ∀ σ H Q, t' σ H Q → t σ H Q) : PA X es t' := ⟨fun pos pins s σ H Q I q => h.run pos pins s σ H Q I (i _ _ _ q)⟩
theorem psImp {t t' : TS} (h : PS X st t) (i : ∀ D σ H, t' D σ H → t D σ H) : PS X st t' := ⟨fun pins s σ H D I q => h.run pins s σ H D I (i _ _ _ q)⟩
theorem pssImp {t t' : TS} (h : PSs X sts t) (i : ∀ D σ H, t' D σ H → t D σ H) : PSs X sts t' := ⟨fun pins s σ H D I q => h.run pins s σ H D I (i _ _ _ q)⟩
theorem pgImp {t t' : TG} (h : PG X e t) (i : ∀ v σ H Q, t' v σ H Q → t v σ H Q) : PG X e t' := ⟨fun pins s σ H v u Q I r q => h.run pins s σ H v u Q I r (i _ _ _ _ q)⟩
theorem pgsImp {t t' : TGs} (h : PGs X es t) (i : ∀ v σ H Q, t' v σ H Q → t v σ H Q) : PGs X es t' := ⟨fun pins s σ H v u Q I r q => h.run pins s σ H v u Q I r (i _ _ _ _ q)⟩
end
section
variable (X : Cx) (B : Bs)
def MX (e : Expr) (p : TEm) : Prop := PE X e (uE X.K B p)
def MT (e : Expr) (p : TTm) : Prop := PT X e (uT X.K B p)
def MW (e : Expr) (p : TTm) : Prop := PW X e (uT X.K B p)
def MA (es : List Expr) (p : TAm) : Prop := PA X es (uA X.K B p)
def MS (st : Stmt) (p : TSm) : Prop := PS X st (uS X.K B p)
def MSs (st : List Stmt) (p : TSm) : Prop := PSs X st (uS X.K B p)
def MG (e : Expr) (g : TGm) : Prop := PG X e (uG X.K B g)
def MGs (e : List Expr) (g : TGsm) : Prop := PGs X e (uGs X.K B g)
abbrev R2m := D → D → Mem → KM → Prop
abbrev R1m := D → Mem → KM → Prop
abbrev RLm := List D → Mem → KM → Prop
def uR2 (K : PySem.W.Frag) (r : R2m) : R2 := fun v w H Q => ∃ x y m Qm, Rep K H x v ∧ Rep K H y w ∧ RM K H m ∧ r x y m Qm ∧ ∀ d m' v H', Qm d m' → RM K H' m' → Step m H m' H' → Rep K H' d v → Q v H'
def uRL (K : PySem.W.Frag) (r : RLm) : List V → Hp → VK → Prop := fun vs H Q => ∃ ds m Qm, Reps K H ds vs ∧ RM K H m ∧ r ds m Qm ∧ ∀ d m' v H', Qm d m' → RM K H' m' → Step m H m' H' → Rep K H' d v → Q v H'
def MOp (f : Value → Value → Sem Value) (r : R2m) : Prop := OpR X f (uR2 X.K r)
def MIx (r : R2m) : Prop := IxR X (uR2 X.K r)
def MCall (f : Value) (r : RLm) : Prop := CallR X f (uRL X.K r)
end
section
variable {X : Cx} {B : Bs} {e a b c : Expr} {es rest : List Expr} {pos : Pos} {pa pb pc : TEm} {ta tb tc : TTm} {la : TAm}
theorem opImp {f : Value → Value → Sem Value} {r r' : R2} (h : OpR X f r) (i : ∀ x y H Q, r' x y H Q → r x y H Q) : OpR X f r' := fun pins s σ H x y v u Q I r1 r2 q => h pins s σ H x y v u Q I r1 r2 (i _ _ _ _ q)
theorem ixImp {r r' : R2} (h : IxR X r) (i : ∀ x y H Q, r' x y H Q → r x y H Q) : IxR X r' := by
  intro value slice pins s σ H x y v u Q I r1 r2 q hs
  exact h value slice pins s σ H x y v u Q I r1 r2 (i _ _ _ _ q) hs
theorem callImp {f : Value} {r r' : List V → Hp → VK → Prop} (h : CallR X f r) (i : ∀ x H Q, r' x H Q → r x H Q) : CallR X f r' := fun pins s σ H xs us Q I r1 q => h pins s σ H xs us Q I r1 (i _ _ _ q)
theorem uE.go {K : PySem.W.Frag} {p : TEm} {σ : St} {H : Hp} {ρ : StM} {m : Mem} {Qm : KM} {Q : VK} (A : At K B σ H ρ m) (q : p ρ m Qm) (k : ∀ d m' v H', Qm d m' → RM K H' m' → Step m H m' H' → Rep K H' d v → Q v H') : uE K B p σ H Q := ⟨ρ, m, Qm, A, q, k⟩
def wC (d : D) : TEm := fun _ m Q => Q d m
theorem mxC {v : V} {d : D} (h : PE X e (tC v)) (r : ∀ H, Rep X.K H d v) : MX X B e (wC d) := peImp h fun σ H Q ⟨ρ, m, Qm, A, q, k⟩ => k d m v H q A.r Step.refl (r H)
theorem mx_int {i j pos} : MX X B (.Constant (.int i) j pos) (wC (.int i)) := mxC pe_int fun _ => Rep.int
theorem mx_bl {i j pos} : MX X B (.Constant (.bool i) j pos) (wC (.bl i)) := mxC pe_bl fun _ => Rep.bl
theorem mx_non {j pos} : MX X B (.Constant .none j pos) (wC .non) := mxC pe_non fun _ => Rep.non
theorem mx_str {i j pos} : MX X B (.Constant (.str i) j pos) (wC (.str i)) := mxC pe_str fun _ => Rep.str
def wVar (i : Nat) : TEm := fun ρ m Q => ∃ d, ρ[i]? = some (some d) ∧ Q d m
theorem mx_var {i : Nat} (h : PE X e (tVar i)) : MX X B e (wVar i) := peImp h fun σ H Q ⟨ρ, m, Qm, A, ⟨d, e1, q⟩, k⟩ => by
  obtain ⟨v, e2, r⟩ := A.s.get e1
  exact ⟨v, e2, k d m v H q A.r Step.refl r⟩
theorem mv (i : Nat) {x : Str} {pos : Pos} (hN : X.N[i]? = some x := by rfl) (hv : Vis X.env.scope x := by first | exact Or.inl rfl | exact Or.inr (Or.inl rfl) | exact Or.inr (Or.inr rfl)) (hd : (x == ("__debug__" : Str)) = false := by decide)
    (hcd : (x == ("__classdict__" : Str)) = false := by decide) : MX X B (.Name x pos) (wVar i) := mx_var (pe_var hN hv hd hcd)
theorem mx_glob {x : Str} {v : V} {d : D} {u : Value} (hg : Gl X x) (hm : X.mg x = some u) (r : RelV v u) (rd : ∀ H, Rep X.K H d v) (hd : (x == ("__debug__" : Str)) = false := by decide) : MX X B (.Name x pos) (wC d) := mxC (pe_glob hg hm r hd) rd
def wBin (r : R2m) (pa pb : TEm) : TEm := fun ρ m Q => pa ρ m fun x m1 => pb ρ m1 fun y m2 => r x y m2 Q
theorem bin_go {K : PySem.W.Frag} {r : R2m} {r0 : R2} {σ : St} {H : Hp} {Q : VK} (ho : ∀ x y H Q, uR2 K r x y H Q → r0 x y H Q) (h : uE K B (wBin r pa pb) σ H Q) : tOp r0 (uE K B pa) (uE K B pb) σ H Q := by
  obtain ⟨ρ, m, Qm, A, q, k⟩ := h
  refine ⟨ρ, m, _, A, q, fun x m1 v H1 q1 r1 t1 x1 => ?_⟩
  refine ⟨ρ, m1, _, A.step r1 t1, q1, fun y m2 w H2 q2 r2 t2 x2 => ?_⟩
  exact ho _ _ _ _ ⟨x, y, m2, Qm, x1.stay (t2.tups r1), x2, r2, q2, fun d m' v H' q3 r3 t3 x3 => k d m' v H' q3 r3 (t1.trans (t2.trans t3)) x3⟩
theorem mx_op {op : Operator} {r : R2m} (ho : MOp X (binaryOp op) r) (ha : MX X B a pa) (hb : MX X B b pb) : MX X B (.BinOp a op b pos) (wBin r pa pb) :=
  peImp (pe_op ho ha hb) fun σ H Q h => bin_go (fun _ _ _ _ q => q) h
theorem mx_cmp {op : CmpOp} {r : R2m} (ho : MOp X (compareOp op) r) (ha : MX X B a pa) (hb : MX X B b pb) (hm : behindInMarks op b = false) : MX X B (.Compare a [op] [b] pos) (wBin r pa pb) :=
  peImp (pe_cmpR ho ha hb hm) fun σ H Q h => bin_go (fun _ _ _ _ q => q) h
def wTest (p : TEm) : TTm := fun ρ m Q => p ρ m fun d m' => ∃ k, d = .bl k ∧ Q k m'
theorem test_go {K : PySem.W.Frag} {p : TEm} {t : TE} {σ : St} {H : Hp} {Q : Bool → Hp → Prop} (ho : ∀ σ H Q, uE K B p σ H Q → t σ H Q) (h : uT K B (wTest p) σ H Q) : tTest t σ H Q := by
  obtain ⟨ρ, m, Qm, A, q, k⟩ := h
  refine ho _ _ _ ⟨ρ, m, _, A, q, fun d m1 v H1 q1 r1 t1 x1 => ?_⟩
  obtain ⟨b, e, q1⟩ := q1
  subst e
  exact ⟨b, Rep.bl_iff.mp x1, k b m1 H1 q1 r1 t1⟩
theorem mt_cmp {op : CmpOp} {r : R2m} (ho : MOp X (compareOp op) r) (ha : MX X B a pa) (hb : MX X B b pb) (hm : behindInMarks op b = false) : MT X B (.Compare a [op] [b] pos) (wTest (wBin r pa pb)) :=
  ptImp (pt_cmpR ho ha hb hm) fun σ H Q h => test_go (fun _ _ _ q => bin_go (fun _ _ _ _ q => q) q) h
theorem mt_val {p : TEm} (h : MX X B e p) (he : ∀ whole, isTrue e X.env whole = (do let v ← whole; standAt e.pos; holding [v] (truthy v)) := by intro _; rfl) : MT X B e (wTest p) :=
  ptImp (pt_val h he) fun σ H Q h => test_go (fun _ _ _ q => q) h
def wChain (r r' : R2m) (pa pb pc : TEm) : TEm := fun ρ m Q => pa ρ m fun x m1 => pb ρ m1 fun y m2 => r x y m2 fun z m3 => ∃ k, z = .bl k ∧ if k = true then pc ρ m3 fun w m4 => r' y w m4 Q else Q (.bl false) m3
theorem chain_go {K : PySem.W.Frag} {r r' : R2m} {σ : St} {H : Hp} {Q : VK} (h : uE K B (wChain r r' pa pb pc) σ H Q) : tChain (uR2 K r) (uR2 K r') (uE K B pa) (uE K B pb) (uE K B pc) σ H Q := by
  obtain ⟨ρ, m, Qm, A, q, k⟩ := h
  refine ⟨ρ, m, _, A, q, fun x m1 v H1 q1 r1 t1 x1 => ?_⟩
  refine ⟨ρ, m1, _, A.step r1 t1, q1, fun y m2 w H2 q2 r2 t2 x2 => ?_⟩
  refine ⟨x, y, m2, _, x1.stay (t2.tups r1), x2, r2, q2, fun z m3 v3 H3 q3 r3 t3 x3 => ?_⟩
  obtain ⟨b, e, q3⟩ := q3
  subst e
  refine ⟨b, Rep.bl_iff.mp x3, ?_⟩
  have t13 := t1.trans (t2.trans t3)
  cases b with
  | false =>
    simp only [Bool.false_eq_true, if_false] at q3 ⊢
    exact k _ _ _ _ q3 r3 t13 Rep.bl
  | true =>
    simp only [if_true] at q3 ⊢
    refine ⟨ρ, m3, _, A.step r3 t13, q3, fun w m4 v4 H4 q4 r4 t4 x4 => ?_⟩
    exact ⟨y, w, m4, Qm, (x2.stay (t3.tups r2)).stay (t4.tups r3), x4, r4, q4, fun d m' v H' q5 r5 t5 x5 => k d m' v H' q5 r5 (t13.trans (t4.trans t5)) x5⟩
theorem mx_chain {op op' : CmpOp} {r r' : R2m} (ho : MOp X (compareOp op) r) (ho' : MOp X (compareOp op') r') (ha : MX X B a pa) (hb : MX X B b pb) (hc : MX X B c pc) (hm : lastMarks [op, op'] [b, c] = false := by with_unfolding_all rfl) : MX X B (.Compare a [op, op'] [b, c] pos) (wChain r r' pa pb pc) :=
  peImp (pe_chain ho ho' ha hb hc hm) fun σ H Q h => chain_go h
theorem mt_chain {op op' : CmpOp} {r r' : R2m} (ho : MOp X (compareOp op) r) (ho' : MOp X (compareOp op') r') (ha : MX X B a pa) (hb : MX X B b pb) (hc : MX X B c pc) (hm : lastMarks [op, op'] [b, c] = false := by with_unfolding_all rfl) : MT X B (.Compare a [op, op'] [b, c] pos) (wTest (wChain r r' pa pb pc)) :=
  ptImp (pt_chain ho ho' ha hb hc hm) fun σ H Q h => test_go (fun _ _ _ q => chain_go q) h
theorem mop_of {f : Value → Value → Sem Value} {r : R2m} {r0 : R2} (h : OpR X f r0) (i : ∀ x y v w H m Q Qm, Rep X.K H x v → Rep X.K H y w → RM X.K H m → r x y m Qm → (∀ d m' v H', Qm d m' → RM X.K H' m' → Step m H m' H' → Rep X.K H' d v → Q v H') → r0 v w H Q) : MOp X f r :=
  opImp h fun v w H Q ⟨x, y, m, Qm, hx, hy, r, q, k⟩ => i x y v w H m Q Qm hx hy r q k
def wI (C : Int → Int → Prop) (g : Int → Int → D) : R2m := fun x y m Q => match x, y with
  | .int i, .int j => C i j ∧ Q (g i j) m
  | _, _ => False
def wI0 (g : Int → Int → D) : R2m := fun x y m Q => match x, y with
  | .int i, .int j => Q (g i j) m
  | _, _ => False
theorem mopI {f : Value → Value → Sem Value} {C : Int → Int → Prop} {g : Int → Int → V} {gd : Int → Int → D} (h : OpR X f (rI C g)) (hg : ∀ i j H, Rep X.K H (gd i j) (g i j)) : MOp X f (wI C gd) := mop_of h fun x y v w H m Q Qm hx hy r q k => by
  unfold wI at q
  split at q
  · rw [Rep.int_iff.mp hx, Rep.int_iff.mp hy]
    exact ⟨_, _, rfl, rfl, q.1, k _ _ _ _ q.2 r Step.refl (hg _ _ _)⟩
  · exact q.elim
theorem mopI0 {f : Value → Value → Sem Value} {g : Int → Int → V} {gd : Int → Int → D} (h : OpR X f (rI0 g)) (hg : ∀ i j H, Rep X.K H (gd i j) (g i j)) : MOp X f (wI0 gd) := mop_of h fun x y v w H m Q Qm hx hy r q k => by
  unfold wI0 at q
  split at q
  · rw [Rep.int_iff.mp hx, Rep.int_iff.mp hy]
    exact ⟨_, _, rfl, rfl, k _ _ _ _ q r Step.refl (hg _ _ _)⟩
  · exact q.elim
theorem mo_sub : MOp X (binaryOp .Sub) (wI0 fun i j => .int (i - j)) := mopI0 op_sub fun _ _ _ => Rep.int
theorem mo_mod : MOp X (binaryOp .Mod) (wI (fun _ j => 0 < j) fun i j => .int (i % j)) := mopI op_mod fun _ _ _ => Rep.int
theorem mo_div : MOp X (binaryOp .FloorDiv) (wI CDivW fun i j => .int (i / j)) := mopI op_fdivW fun _ _ _ => Rep.int
theorem mo_pow : MOp X (binaryOp .Pow) (wI CPow fun i j => .int (i ^ j.toNat)) := mopI op_pow fun _ _ _ => Rep.int
theorem mo_lt : MOp X (compareOp .Lt) (wI0 fun i j => .bl (decide (i < j))) := mopI0 op_lt fun _ _ _ => Rep.bl
theorem mo_le : MOp X (compareOp .LtE) (wI0 fun i j => .bl (decide (i ≤ j))) := mopI0 op_le fun _ _ _ => Rep.bl
theorem mo_gt : MOp X (compareOp .Gt) (wI0 fun i j => .bl (decide (j < i))) := mopI0 op_gt fun _ _ _ => Rep.bl
theorem mo_ge : MOp X (compareOp .GtE) (wI0 fun i j => .bl (decide (j ≤ i))) := mopI0 op_ge fun _ _ _ => Rep.bl
def scD : D → D → Option Bool
  | .int i, .int j => some (decide (i = j))
  | .str i, .str j => some (decide (i = j))
  | .bl i, .bl j => some (decide (i = j))
  | .non, .non => some true
  | _, _ => none
theorem scD_of {K : PySem.W.Frag} {H : Hp} {x y : D} {v w : V} {b : Bool} (hx : Rep K H x v) (hy : Rep K H y w) (h : scD x y = some b) : scal v w = true ∧ decide (v = w) = b := by
  unfold scD at h
  split at h
  · rw [Rep.int_iff.mp hx, Rep.int_iff.mp hy]; cases h; exact ⟨rfl, by rw [decide_eq_decide]; exact ⟨fun e => by injection e, fun e => by rw [e]⟩⟩
  · rw [Rep.str_iff.mp hx, Rep.str_iff.mp hy]; cases h; exact ⟨rfl, by rw [decide_eq_decide]; exact ⟨fun e => by injection e, fun e => by rw [e]⟩⟩
  · rw [Rep.bl_iff.mp hx, Rep.bl_iff.mp hy]; cases h; exact ⟨rfl, by rw [decide_eq_decide]; exact ⟨fun e => by injection e, fun e => by rw [e]⟩⟩
  · rw [Rep.non_iff.mp hx, Rep.non_iff.mp hy]; cases h; exact ⟨rfl, by simp⟩
  · cases h
def isN : D → Bool
  | .non => true
  | _ => false
theorem isN_of {K : PySem.W.Frag} {H : Hp} {x : D} {v : V} (hx : Rep K H x v) : decide (v = .non) = isN x := by
  cases x with
  | non => rw [Rep.non_iff.mp hx]; rfl
  | bl b => rw [Rep.bl_iff.mp hx]; rfl
  | int b => rw [Rep.int_iff.mp hx]; rfl
  | str b => rw [Rep.str_iff.mp hx]; rfl
  | ref b => rw [Rep.ref_iff.mp hx]; rfl
  | ty b => rw [Rep.ty_iff.mp hx]; rfl
  | tup b => obtain ⟨a, xs, e, _⟩ := Rep.tup_iff.mp hx; rw [e]; rfl
def wIsN : R2m := fun x y m Q => match y with
  | .non => Q (.bl (isN x)) m
  | _ => False
def wNotN : R2m := fun x y m Q => match y with
  | .non => Q (.bl (!isN x)) m
  | _ => False
theorem mo_isN : MOp X (compareOp .Is) wIsN := mop_of op_isN fun x y v w H m Q Qm hx hy r q k => by
  unfold wIsN at q
  split at q
  · exact ⟨Rep.non_iff.mp hy, by rw [isN_of hx]; exact k _ _ _ _ q r Step.refl Rep.bl⟩
  · exact q.elim
theorem mo_notN : MOp X (compareOp .IsNot) wNotN := mop_of op_notN fun x y v w H m Q Qm hx hy r q k => by
  unfold wNotN at q
  split at q
  · exact ⟨Rep.non_iff.mp hy, by rw [isN_of hx]; exact k _ _ _ _ q r Step.refl Rep.bl⟩
  · exact q.elim
def wAnd (t u : TTm) : TTm := fun ρ m Q => t ρ m fun c m1 => if c = true then u ρ m1 Q else Q false m1
def wOr (t u : TTm) : TTm := fun ρ m Q => t ρ m fun c m1 => if c = true then Q true m1 else u ρ m1 Q
def wNot (t : TTm) : TTm := fun ρ m Q => t ρ m fun c m1 => Q (!c) m1
theorem mw_pt {t : TTm} (h : MW X B e t) : MT X B e t := h.pt
theorem mw_and1 (ha : MT X B a ta) : MW X B (.BoolOp .And [a] pos) ta := pw_and1 ha
theorem mw_or1 (ha : MT X B a ta) : MW X B (.BoolOp .Or [a] pos) ta := pw_or1 ha
theorem mw_and (ha : MT X B a ta) (hb : MW X B (.BoolOp .And (b :: rest) pos) tb) : MW X B (.BoolOp .And (a :: b :: rest) pos) (wAnd ta tb) :=
  pwImp (pw_and ha hb) fun σ H Q ⟨ρ, m, Qm, A, q, k⟩ => by
    refine ⟨ρ, m, _, A, q, fun c m1 H1 q1 r1 t1 => ?_⟩
    cases c with
    | true => simp only [if_true] at q1 ⊢; exact ⟨ρ, m1, Qm, A.step r1 t1, q1, fun d m' H' q2 r2 t2 => k d m' H' q2 r2 (t1.trans t2)⟩
    | false => simp only [Bool.false_eq_true, if_false] at q1 ⊢; exact k _ _ _ q1 r1 t1
theorem mw_or (ha : MT X B a ta) (hb : MW X B (.BoolOp .Or (b :: rest) pos) tb) : MW X B (.BoolOp .Or (a :: b :: rest) pos) (wOr ta tb) :=
  pwImp (pw_or ha hb) fun σ H Q ⟨ρ, m, Qm, A, q, k⟩ => by
    refine ⟨ρ, m, _, A, q, fun c m1 H1 q1 r1 t1 => ?_⟩
    cases c with
    | false => simp only [Bool.false_eq_true, if_false] at q1 ⊢; exact ⟨ρ, m1, Qm, A.step r1 t1, q1, fun d m' H' q2 r2 t2 => k d m' H' q2 r2 (t1.trans t2)⟩
    | true => simp only [if_true] at q1 ⊢; exact k _ _ _ q1 r1 t1
theorem mt_not (ha : MT X B a ta) : MT X B (.UnaryOp .Not a pos) (wNot ta) :=
  ptImp (pt_not ha) fun σ H Q ⟨ρ, m, Qm, A, q, k⟩ => ⟨ρ, m, _, A, q, fun c m1 H1 q1 r1 t1 => k _ _ _ q1 r1 t1⟩
def wAndV (p q : TEm) : TEm := fun ρ m Q => p ρ m fun d m1 => ∃ c, d = .bl c ∧ if c = true then q ρ m1 Q else Q (.bl false) m1
def wOrV (p q : TEm) : TEm := fun ρ m Q => p ρ m fun d m1 => ∃ c, d = .bl c ∧ if c = true then Q (.bl true) m1 else q ρ m1 Q
def wNotV (p : TEm) : TEm := fun ρ m Q => p ρ m fun d m1 => ∃ c, d = .bl c ∧ Q (.bl (!c)) m1
theorem mx_one {op} {p : TEm} (h : MX X B a p) : MX X B (.BoolOp op [a] pos) p := pe_one h
theorem mx_and (ha : MX X B a pa) (hb : MX X B (.BoolOp .And (b :: rest) pos) pb) : MX X B (.BoolOp .And (a :: b :: rest) pos) (wAndV pa pb) :=
  peImp (pe_and ha hb) fun σ H Q ⟨ρ, m, Qm, A, q, k⟩ => by
    refine ⟨ρ, m, _, A, q, fun d m1 v H1 ⟨c, e, q1⟩ r1 t1 x1 => ?_⟩
    subst e
    refine ⟨c, Rep.bl_iff.mp x1, ?_⟩
    cases c with
    | true => simp only [if_true] at q1 ⊢; exact ⟨ρ, m1, Qm, A.step r1 t1, q1, fun d m' v H' q2 r2 t2 => k d m' v H' q2 r2 (t1.trans t2)⟩
    | false => simp only [Bool.false_eq_true, if_false] at q1 ⊢; exact k _ _ _ _ q1 r1 t1 Rep.bl
theorem mx_or (ha : MX X B a pa) (hb : MX X B (.BoolOp .Or (b :: rest) pos) pb) : MX X B (.BoolOp .Or (a :: b :: rest) pos) (wOrV pa pb) :=
  peImp (pe_or ha hb) fun σ H Q ⟨ρ, m, Qm, A, q, k⟩ => by
    refine ⟨ρ, m, _, A, q, fun d m1 v H1 ⟨c, e, q1⟩ r1 t1 x1 => ?_⟩
    subst e
    refine ⟨c, Rep.bl_iff.mp x1, ?_⟩
    cases c with
    | false => simp only [Bool.false_eq_true, if_false] at q1 ⊢; exact ⟨ρ, m1, Qm, A.step r1 t1, q1, fun d m' v H' q2 r2 t2 => k d m' v H' q2 r2 (t1.trans t2)⟩
    | true => simp only [if_true] at q1 ⊢; exact k _ _ _ _ q1 r1 t1 Rep.bl
theorem mx_not (ha : MX X B a pa) : MX X B (.UnaryOp .Not a pos) (wNotV pa) :=
  peImp (pe_not ha) fun σ H Q ⟨ρ, m, Qm, A, q, k⟩ => by
    refine ⟨ρ, m, _, A, q, fun d m1 v H1 ⟨c, e, q1⟩ r1 t1 x1 => ?_⟩
    subst e
    exact ⟨c, Rep.bl_iff.mp x1, k _ _ _ _ q1 r1 t1 Rep.bl⟩
def wIf (t : TTm) (p q : TEm) : TEm := fun ρ m Q => t ρ m fun c m1 => if c = true then p ρ m1 Q else q ρ m1 Q
theorem mx_if (hc : MT X B c tc) (ha : MX X B a pa) (hb : MX X B b pb) : MX X B (.IfExp c a b pos) (wIf tc pa pb) :=
  peImp (pe_ifExp hc ha hb) fun σ H Q ⟨ρ, m, Qm, A, q, k⟩ => by
    refine ⟨ρ, m, _, A, q, fun d m1 H1 q1 r1 t1 => ?_⟩
    cases d with
    | true => simp only [if_true] at q1 ⊢; exact ⟨ρ, m1, Qm, A.step r1 t1, q1, fun d m' v H' q2 r2 t2 => k d m' v H' q2 r2 (t1.trans t2)⟩
    | false => simp only [Bool.false_eq_true, if_false] at q1 ⊢; exact ⟨ρ, m1, Qm, A.step r1 t1, q1, fun d m' v H' q2 r2 t2 => k d m' v H' q2 r2 (t1.trans t2)⟩
def wNeg : R1m := fun x m Q => match x with
  | .int i => Q (.int (-i)) m
  | _ => False
def wUn (r : R1m) (p : TEm) : TEm := fun ρ m Q => p ρ m fun d m1 => r d m1 Q
theorem mx_neg (ha : MX X B a pa) : MX X B (.UnaryOp .USub a pos) (wUn wNeg pa) :=
  peImp (pe_un un_neg ha) fun σ H Q ⟨ρ, m, Qm, A, q, k⟩ => by
    refine ⟨ρ, m, _, A, q, fun d m1 v H1 q1 r1 t1 x1 => ?_⟩
    unfold wNeg at q1
    split at q1
    · exact ⟨_, Rep.int_iff.mp x1, k _ _ _ _ q1 r1 t1 Rep.int⟩
    · exact q1.elim
def wNil : TAm := fun _ m Q => Q [] m
def wCons (p : TEm) (t : TAm) : TAm := fun ρ m Q => p ρ m fun d m1 => t ρ m1 fun ds m2 => Q (d :: ds) m2
theorem ma_nil : MA X B [] wNil := paImp pa_nil fun σ H Q ⟨ρ, m, Qm, A, q, k⟩ => k [] m [] H q A.r Step.refl Reps.nil
theorem ma_cons (ha : MX X B e pa) (hr : MA X B es la) (hs : starEach (e :: es) X.env = (false, eval e X.env) :: starEach es X.env := by rfl) : MA X B (e :: es) (wCons pa la) :=
  paImp (pa_cons ha hr hs) fun σ H Q ⟨ρ, m, Qm, A, q, k⟩ => by
    refine ⟨ρ, m, _, A, q, fun d m1 v H1 q1 r1 t1 x1 => ?_⟩
    refine ⟨ρ, m1, _, A.step r1 t1, q1, fun ds m2 vs H2 q2 r2 t2 x2 => ?_⟩
    exact k _ _ _ _ q2 r2 (t1.trans t2) (Reps.cons (x1.stay (t2.tups r1)) x2)
def wTup (t : TAm) : TEm := fun ρ m Q => t ρ m fun ds m1 => ds.length ≤ sizeLine ∧ Q (.tup ds) m1
theorem mx_tup {k : Nat} (h : MA X B es la) : MX X B (.Tuple es k pos) (wTup la) :=
  peImp (pe_tup h) fun σ H Q ⟨ρ, m, Qm, A, q, k⟩ => by
    refine ⟨ρ, m, _, A, q, fun ds m1 vs H1 ⟨z, q1⟩ r1 t1 x1 => ⟨by rw [← x1.length]; exact z, fun p hp => ?_⟩⟩
    have t2 : Step m1 H1 m1 (upd H1 p (.tup vs)) := Step.hid r1 hp
    exact k _ _ _ _ q1 (r1.hid hp) (t1.trans t2) (Rep.tup_iff.mpr ⟨p, vs, rfl, TupAt.of upd_same, x1.stay (t2.tups r1)⟩)
def newO (o : O) (m : Mem) (Q : KM) : Prop := ∀ p, m p = none → Q (.ref p) (mput m p o)
theorem new_go {K : PySem.W.Frag} {m0 m1 : Mem} {H0 H1 : Hp} {o : O} {u : HO} {Qm : KM} {Q : VK} (q : newO o m1 Qm) (r1 : RM K H1 m1) (t1 : Step m0 H0 m1 H1) (x : RepO K H1 o u) (k : ∀ d m' v H', Qm d m' → RM K H' m' → Step m0 H0 m' H' → Rep K H' d v → Q v H') :
    ∀ p, H1 p = none → Q (.ref p) (upd H1 p u) := fun p hp => k _ _ _ _ (q p (r1.out hp)) (r1.new hp x) (t1.trans (Step.new r1 hp)) Rep.ref
def wLst (t : TAm) : TEm := fun ρ m Q => t ρ m fun ds m1 => ds.length ≤ sizeLine ∧ newO (.lst ds) m1 Q
theorem mx_lst (h : MA X B es la) : MX X B (.List es pos) (wLst la) :=
  peImp (pe_lst h) fun σ H Q ⟨ρ, m, Qm, A, q, k⟩ => by
    refine ⟨ρ, m, _, A, q, fun ds m1 vs H1 ⟨z, q1⟩ r1 t1 x1 => ⟨by rw [← x1.length]; exact z, ?_⟩⟩
    exact new_go q1 r1 t1 ⟨vs, rfl, x1⟩ k
def rdM (m : Mem) (a : Addr) : Option O := match m a with
  | some (.frz o) => some o
  | o => o
theorem rd_of {m : Mem} {a : Addr} {o : O} (h : m a = some o) (w : Wr o) : rdM m a = some o := by
  unfold rdM; rw [h]; cases o <;> first | rfl | exact w.elim
theorem rd_frz {m : Mem} {a : Addr} {o : O} (h : m a = some (.frz o)) : rdM m a = some o := by unfold rdM; rw [h]
theorem rd_go {K : PySem.W.Frag} {H : Hp} {m : Mem} {a : Addr} {o : O} (r : RM K H m) (h : rdM m a = some o) : ∃ u, Rd H a u ∧ RepO K H o u := by
  unfold rdM at h
  split at h
  · rename_i o' e
    cases h
    obtain ⟨u, h1, ob, v, rfl, h2⟩ := r a _ e
    exact ⟨v, .inr ⟨ob, h1⟩, h2⟩
  · obtain ⟨u, h1, h2⟩ := r a _ h
    exact ⟨u, .inl h1, h2⟩
theorem rd_lst {K : PySem.W.Frag} {H : Hp} {m : Mem} {a : Addr} {ds : List D} (r : RM K H m) (h : rdM m a = some (.lst ds)) : ∃ xs, SqL K H a xs ∧ Reps K H ds xs := by
  obtain ⟨u, h1, xs, rfl, h2⟩ := rd_go r h
  exact ⟨xs, .inl h1, h2⟩
end
end Mm
namespace Mm
open PySem L2
section
variable {X : Cx} {B : Bs} {e a b c : Expr} {st : Stmt} {es : List Expr} {rest : List Stmt} {pos : Pos} {pa pb pc p : TEm} {ta tb tc : TTm} {la : TAm} {t u : TSm}
def wSeq (t u : TSm) : TSm := fun E ρ m => t { E with nx := u E } ρ m
def wNext : TSm := fun E ρ m => E.nx ρ m
theorem uN.refl {K : PySem.W.Frag} {n : St → Hp → Prop} {m : Mem} {H : Hp} {nm : StM → Mem → Prop} {σ : St} {ρ : StM} (h : uN K n m H nm) (A : At K B σ H ρ m) (q : nm ρ m) : n σ H := h _ _ _ _ q A.r Step.refl A.s
theorem uN.trans {K : PySem.W.Frag} {n : St → Hp → Prop} {m m1 : Mem} {H H1 : Hp} {nm : StM → Mem → Prop} (h : uN K n m H nm) (t1 : Step m H m1 H1) : uN K n m1 H1 nm := fun ρ' m' σ' H' q r t s => h ρ' m' σ' H' q r (t1.trans t) s
theorem mss_nil : MSs X B [] wNext := pssImp pss_nil fun D σ H ⟨ρ, m, E, A, q, n, _⟩ => n.refl A q
theorem mss_one (h : MS X B st t) : MSs X B [st] t := pss_one h
theorem mss_cons (h1 : MS X B st t) (h2 : MSs X B rest u) : MSs X B (st :: rest) (wSeq t u) := pssImp (pss_cons h1 h2) fun D σ H ⟨ρ, m, E, A, q, n, rt, bk, ct⟩ => by
  refine ⟨ρ, m, { E with nx := u E }, A, q, ?_, rt, bk, ct⟩
  intro ρ' m' σ' H' q' r' t' s'
  exact ⟨ρ', m', E, A.step' r' t' s', q', n.trans t', fun d m2 v H2 q2 r2 t2 x2 => rt d m2 v H2 q2 r2 (t'.trans t2) x2, bk.trans t', ct.trans t'⟩
def wDrop (p : TEm) : TSm := fun E ρ m => p ρ m fun _ m1 => E.nx ρ m1
theorem ms_expr (h : MX X B e p) (hs : swapsWith e none pos.line X.env = pure false := by rfl) : MS X B (.Expr e pos) (wDrop p) := psImp (ps_expr h hs) fun D σ H ⟨ρ, m, E, A, q, n, _⟩ =>
  ⟨ρ, m, _, A, q, fun d m1 v H1 q1 r1 t1 x1 => n _ _ _ _ q1 r1 t1 (A.s.stay (t1.tups A.r))⟩
def wRet (p : TEm) : TSm := fun E ρ m => p ρ m E.rt
theorem ms_ret (h : MX X B e p) : MS X B (.Return (some e) pos) (wRet p) := psImp (ps_ret h) fun D σ H ⟨ρ, m, E, A, q, n, rt, _⟩ => ⟨ρ, m, _, A, q, rt⟩
def wRetN : TSm := fun E _ m => E.rt .non m
def wIfS (c : TTm) (t u : TSm) : TSm := fun E ρ m => c ρ m fun b m1 => if b = true then t E ρ m1 else u E ρ m1
theorem ms_if {xs ys : List Stmt} (hc : MT X B c tc) (ha : MSs X B xs t) (hb : MSs X B ys u) : MS X B (.If c xs ys pos) (wIfS tc t u) := psImp (ps_if hc ha hb) fun D σ H ⟨ρ, m, E, A, q, n, rt, bk, ct⟩ => by
  refine ⟨ρ, m, _, A, q, fun d m1 H1 q1 r1 t1 => ?_⟩
  have fin : ∀ {v : TSm}, v E ρ m1 → uS X.K B v D σ H1 := fun {v} z => ⟨ρ, m1, E, A.step r1 t1, z, n.trans t1, fun d m2 v H2 q2 r2 t2 x2 => rt d m2 v H2 q2 r2 (t1.trans t2) x2, bk.trans t1, ct.trans t1⟩
  cases d with
  | true => simp only [if_true] at q1 ⊢; exact fin q1
  | false => simp only [Bool.false_eq_true, if_false] at q1 ⊢; exact fin q1
def wNever : TSm := fun _ _ _ => False
theorem ms_never : MS X B st wNever := psImp ps_never fun D σ H ⟨ρ, m, E, A, q, _⟩ => q
def gN (i : Nat) : TGm := fun d ρ m Q => Q (ρ.set i (some d)) m
theorem mg_name {i : Nat} {x : Str} (hN : X.N.Nodup) (hi : X.N[i]? = some x) (hx : Loc X.env.scope x) (hf : X.fn x = true ∨ X.env.scope.names.lookup x = some .local := by first | exact .inl rfl | exact .inr rfl | assumption) : MG X B (.Name x pos) (gN i) :=
  pgImp (pg_name hN hi hx hf) fun v σ H Q ⟨d, ρ, m, Qm, x, A, q, k⟩ => k _ _ _ _ q A.r Step.refl (Ss.set x i A.s)
def gNils : TGsm := fun ds ρ m Q => ds = [] ∧ Q ρ m
def gConss (g : TGm) (h : TGsm) : TGsm := fun ds ρ m Q => match ds with
  | d :: r => g d ρ m fun ρ1 m1 => h r ρ1 m1 Q
  | [] => False
theorem mgs_nil : MGs X B [] gNils := pgsImp pgs_nil fun vs σ H Q ⟨ds, ρ, m, Qm, x, A, ⟨e, q⟩, k⟩ => by
  subst e
  exact ⟨Reps.nil_iff.mp x, k _ _ _ _ q A.r Step.refl A.s⟩
theorem mgs_cons {g : TGm} {h : TGsm} (h1 : MG X B e g) (h2 : MGs X B es h) (hs : (assignEach (e :: es) X.env).map (·.2) = assign e X.env :: (assignEach es X.env).map (·.2) := by rfl) : MGs X B (e :: es) (gConss g h) :=
  pgsImp (pgs_cons h1 h2 hs) fun vs σ H Q ⟨ds, ρ, m, Qm, x, A, q, k⟩ => by
    unfold gConss at q
    split at q
    · rename_i d r
      obtain ⟨v, w, e, x1, x2⟩ := Reps.cons_iff.mp x
      refine ⟨v, w, e, d, ρ, m, _, x1, A, q, fun ρ1 m1 σ1 H1 q1 r1 t1 s1 => ?_⟩
      exact ⟨r, ρ1, m1, Qm, x2.stay (t1.tups A.r), A.step' r1 t1 s1, q1, k.trans t1⟩
    · exact q.elim
def gTupM (n : Nat) (h : TGsm) : TGm := fun d ρ m Q => match d with
  | .tup ds => ds.length = n ∧ h ds ρ m Q
  | _ => False
theorem mg_tup {k : Nat} {h : TGsm} {n : Nat} (hc : X.calm = true) (hh : MGs X B es h) (hn : (assignEach es X.env).length = n := by rfl) (hst : (assignEach es X.env).findIdx? (·.1) = none := by rfl) : MG X B (.Tuple es k pos) (gTupM n h) :=
  pgImp (pg_tup hc hh hn hst) fun v σ H Q ⟨d, ρ, m, Qm, x, A, q, k⟩ => by
    unfold gTupM at q
    split at q
    · obtain ⟨a, xs, e, s, r⟩ := Rep.tup_iff.mp x
      exact ⟨a, xs, e, s.sq, by rw [← r.length]; exact q.1, _, ρ, m, Qm, r, A, q.2, k⟩
    · exact q.elim
def wAsg (p : TEm) (g : TGm) : TSm := fun E ρ m => p ρ m fun d m1 => g d ρ m1 E.nx
theorem asg_go {K : PySem.W.Frag} {g : TGm} {D : Ends} {σ : St} {H : Hp} (h : uS K B (wAsg p g) D σ H) : tAsg (uE K B p) (uG K B g) D σ H := by
  obtain ⟨ρ, m, E, A, q, n, _⟩ := h
  exact ⟨ρ, m, _, A, q, fun d m1 v H1 q1 r1 t1 x1 => ⟨d, ρ, m1, _, x1, A.step r1 t1, q1, n.trans t1⟩⟩
theorem ms_asg {tg : Expr} {g : TGm} (h : MX X B e p) (hg : MG X B tg g) (hs : swapsWithSole [tg] e pos.line X.env = pure false := by rfl) (hw : swappedStores [tg] e X.env = pure none := by rfl)
    (h1 : (assignEach [tg] X.env).map (·.2) = [assign tg X.env] := by rfl) : MS X B (.Assign [tg] e pos) (wAsg p g) := psImp (ps_asg h hg hs hw h1) fun D σ H h => asg_go h
def wSet (i : Nat) (p : TEm) : TSm := fun E ρ m => p ρ m fun d m1 => E.nx (ρ.set i (some d)) m1
theorem ms_set {i : Nat} {x : Str} {pos' : Pos} (hN : X.N.Nodup) (hi : X.N[i]? = some x) (hx : Loc X.env.scope x) (h : MX X B e p) (hs : swapsWith e (some (.Name x pos')) pos.line X.env = pure false := by rfl) (hf : X.fn x = true ∨ X.env.scope.names.lookup x = some .local := by first | exact .inl rfl | exact .inr rfl | assumption) :
    MS X B (.Assign [.Name x pos'] e pos) (wSet i p) := psImp (ps_set hN hi hx h hs hf) fun D σ H ⟨ρ, m, E, A, q, n, _⟩ =>
  ⟨ρ, m, _, A, q, fun d m1 v H1 q1 r1 t1 x1 => n _ _ _ _ q1 r1 t1 (Ss.set x1 i (A.s.stay (t1.tups A.r)))⟩
def wPar (i j : Nat) (t : TAm) : TSm := fun E ρ m => t ρ m fun ds m1 => twoAt ds fun x y => E.nx ((ρ.set i (some x)).set j (some y)) m1
theorem mix_of {r : R2m} {r0 : R2} (h : IxR X r0) (i : ∀ x y v w H m Q Qm, Rep X.K H x v → Rep X.K H y w → RM X.K H m → r x y m Qm → (∀ d m' v H', Qm d m' → RM X.K H' m' → Step m H m' H' → Rep X.K H' d v → Q v H') → r0 v w H Q) : MIx X r :=
  ixImp h fun v w H Q ⟨x, y, m, Qm, hx, hy, r, q, k⟩ => i x y v w H m Q Qm hx hy r q k
theorem mx_ix {r : R2m} (hr : MIx X r) (ha : MX X B a pa) (hb : MX X B b pb) (hs : PlainIx b := by exact fun _ _ => rfl) : MX X B (.Subscript a b pos) (wBin r pa pb) :=
  peImp (pe_ix hr ha hb hs) fun σ H Q h => bin_go (fun _ _ _ _ q => q) h
theorem atI_rep {K : PySem.W.Frag} {H : Hp} {ds : List D} {vs : List V} {i : Int} {d : D} (h : Reps K H ds vs) (e : atI ds i = some d) : ∃ v, atI vs i = some v ∧ Rep K H d v := by
  unfold atI at e ⊢
  rw [← h.length]
  cases q : ixN ds.length i with
  | none => rw [q] at e; cases e
  | some j =>
    rw [q] at e
    exact h.get e
theorem mcall_of {f : Value} {r : RLm} {r0 : List V → Hp → VK → Prop} (h : CallR X f r0) (i : ∀ ds vs H m Q Qm, Reps X.K H ds vs → RM X.K H m → r ds m Qm → (∀ d m' v H', Qm d m' → RM X.K H' m' → Step m H m' H' → Rep X.K H' d v → Q v H') → r0 vs H Q) : MCall X f r :=
  callImp h fun vs H Q ⟨ds, m, Qm, hx, r, q, k⟩ => i ds vs H m Q Qm hx r q k
def wCB (r : RLm) (t : TAm) : TEm := fun ρ m Q => t ρ m fun ds m1 => r ds m1 Q
theorem cb_go {K : PySem.W.Frag} {r : RLm} {σ : St} {H : Hp} {Q : VK} (h : uE K B (wCB r la) σ H Q) : tCB (uRL K r) (uA K B la) σ H Q := by
  obtain ⟨ρ, m, Qm, A, q, k⟩ := h
  exact ⟨ρ, m, _, A, q, fun ds m1 vs H1 q1 r1 t1 x1 => ⟨ds, m1, Qm, x1, r1, q1, fun d m' v H' q2 r2 t2 x2 => k d m' v H' q2 r2 (t1.trans t2) x2⟩⟩
theorem mx_callB {x : Str} {id : String} {r : RLm} {p : Pos} (hc : MCall X (.builtin id) r) (hm : X.mg x = none) (ha : MA X B (e :: es) la) (hg : Gl X x := by rfl) (hv : bootBuiltins x = some (.builtin id) := by decide +kernel) (hn : x ≠ "__name__" := by decide) (hdb : (x == ("__debug__" : Str)) = false := by decide)
    (he : starEach (e :: es) X.env = (false, eval e X.env) :: starEach es X.env := by rfl) (hpl : (backTo pos (starEach es X.env)).any (·.1) = false := by rfl) : MX X B (.Call (.Name x p) (e :: es) [] pos) (wCB r la) :=
  peImp (pe_callB hc hg hm hv ha hn hdb he hpl) fun σ H Q h => cb_go h
theorem mx_callTy {x : Str} {T : String} {r : RLm} {p : Pos} (hc : MCall X (.type T) r) (hm : X.mg x = none) (ha : MA X B (e :: es) la) (hg : Gl X x := by rfl) (hv : bootBuiltins x = some (.type T) := by decide +kernel) (hn : x ≠ "__name__" := by decide) (hdb : (x == ("__debug__" : Str)) = false := by decide)
    (he : starEach (e :: es) X.env = (false, eval e X.env) :: starEach es X.env := by rfl) (hpl : (backTo pos (starEach es X.env)).any (·.1) = false := by rfl) : MX X B (.Call (.Name x p) (e :: es) [] pos) (wCB r la) :=
  peImp (pe_callTy hc hg hm hv ha hn hdb he hpl) fun σ H Q h => cb_go h
theorem reps1 {K : PySem.W.Frag} {H : Hp} {d : D} {vs : List V} (h : Reps K H [d] vs) : ∃ v, vs = [v] ∧ Rep K H d v := by
  obtain ⟨v, r, e, x, y⟩ := Reps.cons_iff.mp h
  rw [Reps.nil_iff.mp y] at e
  exact ⟨v, e, x⟩
theorem reps2 {K : PySem.W.Frag} {H : Hp} {d d2 : D} {vs : List V} (h : Reps K H [d, d2] vs) : ∃ v w, vs = [v, w] ∧ Rep K H d v ∧ Rep K H d2 w := by
  obtain ⟨v, r, e, x, y⟩ := Reps.cons_iff.mp h
  obtain ⟨w, e2, z⟩ := reps1 y
  subst e2
  exact ⟨v, w, e, x, z⟩
end
end Mm
namespace Mm
open PySem L2
abbrev TIm := StM → Mem → (List D → (Mem → Prop) → Mem → Prop) → Prop
def Good (K : PySem.W.Frag) (J : It) (ds : List D) (chk : Mem → Prop) (m1 : Mem) (H1 : Hp) : Prop :=
  ∀ (i : Nat) (m' : Mem) (H' : Hp), Step m1 H1 m' H' → RM K H' m' → chk m' →
    (∀ d, ds[i]? = some d → J.go i H' ∧ ∀ x H2, J.yld i H' x H2 → RM K H2 m' ∧ Step m' H' m' H2 ∧ Rep K H2 d x) ∧ (ds.length ≤ i → J.stop i H')
def uI (K : PySem.W.Frag) (B : Bs) (ti : TIm) : TI := fun σ H R => ∃ ρ m Rm, At K B σ H ρ m ∧ ti ρ m Rm ∧ ∀ ds chk m1 H1 J, Rm ds chk m1 → RM K H1 m1 → Step m H m1 H1 → Good K J ds chk m1 H1 → R J H1
section
variable {X : Cx} {tg iter : Expr}
theorem piImp {t t' : TI} (h : PI X tg iter t) (i : ∀ σ H R, t' σ H R → t σ H R) : PI X tg iter t' := ⟨fun pins s σ H R I q => h.run pins s σ H R I (i _ _ _ q)⟩
end
def MI (X : Cx) (B : Bs) (tg iter : Expr) (ti : TIm) : Prop := PI X tg iter (uI X.K B ti)
section
variable {X : Cx} {B : Bs} {e e2 a b c tg iter : Expr} {st : Stmt} {es : List Expr} {rest body : List Stmt} {pos : Pos} {pa pb pc p : TEm} {ta tb tc : TTm} {la : TAm} {t u : TSm}
def iL (p : TEm) : TIm := fun ρ m R => p ρ m fun d m1 => refAt d fun a => ∃ ds, rdM m1 a = some (.lst ds) ∧ R ds (fun m' => rdM m' a = some (.lst ds)) m1
def iH (p : TEm) : TIm := fun ρ m R => p ρ m fun d m1 => refAt d fun a => ∃ ds m0, rdM m1 a = some (.lst ds) ∧ Sub m0 m1 ∧ Nm m0 a ∧ R ds (fun _ => True) m0
def iT (p : TEm) : TIm := fun ρ m R => p ρ m fun d m1 => tupAt d fun ds => R ds (fun _ => True) m1
theorem good_list {K : PySem.W.Frag} {a : Addr} {ds : List D} {chk : Mem → Prop} {m1 : Mem} {H1 : Hp} (h : ∀ m' H', Step m1 H1 m' H' → RM K H' m' → chk m' → ∃ xs, SqL K H' a xs ∧ Reps K H' ds xs) (hf : ∀ H' xs ys, SqL K H' a xs → SqL K H' a ys → xs = ys → True) :
    Good K ⟨(Itl K a).go, fun i H x H' => H' = H ∧ ∀ xs, SqL K H a xs → xs[i]? = some x, (Itl K a).stop⟩ ds chk m1 H1 := fun i m' H' s r k => by
  obtain ⟨xs, hx, rr⟩ := h m' H' s r k
  refine ⟨fun d e => ?_, fun e => ⟨xs, hx, by rw [← rr.length]; exact e⟩⟩
  obtain ⟨v, e2, x2⟩ := rr.get e
  refine ⟨⟨xs, v, hx, e2⟩, fun x H2 y => ?_⟩
  obtain ⟨e3, y⟩ := y
  subst e3
  have e4 := y xs hx
  rw [e2] at e4; cases e4
  exact ⟨r, Step.refl, x2⟩
theorem sqL_step {K : PySem.W.Frag} {m m' : Mem} {H H' : Hp} {a : Addr} {xs : List V} (s : Step m H m' H') (n : Nm m a) (h : SqL K H a xs) : SqL K H' a xs := by
  rcases h with (h | ⟨ob, h⟩) | h
  · exact .inl (.inl (s a _ h n).1)
  · exact .inl (.inr ⟨ob, (s a _ h n).1⟩)
  · exact .inr h
theorem mi_tup (h : MX X B iter p) : MI X B tg iter (iT p) := piImp (pi_tup h) fun σ H R ⟨ρ, m, Rm, A, q, k⟩ => by
  refine ⟨ρ, m, _, A, q, fun d m1 v H1 q1 r1 t1 x1 => ?_⟩
  unfold tupAt at q1
  split at q1
  · rename_i ds
    obtain ⟨a, xs, e, hT, rr⟩ := Rep.tup_iff.mp x1
    refine ⟨a, e, ⟨xs, hT.sq⟩, k _ _ _ _ (Itt X.K a) q1 r1 t1 fun i m' H' s r c => ?_⟩
    have hx : SqT X.K H' a xs := ((s.tups r1) _ _ _ hT).sq
    have rr' := rr.stay (s.tups r1)
    refine ⟨fun d e => ?_, fun e => ⟨xs, hx, by rw [← rr'.length]; exact e⟩⟩
    obtain ⟨v, e2, x2⟩ := rr'.get e
    refine ⟨⟨xs, v, hx, e2⟩, fun x H2 y => ?_⟩
    obtain ⟨e3, y⟩ := y
    subst e3
    have e4 := y xs hx
    rw [e2] at e4; cases e4
    exact ⟨r, Step.refl, x2⟩
  · exact q1.elim
def rangeD (lo : Int) (n : Nat) : List D := (List.range n).map fun i => .int (lo + (i : Nat))
theorem good_range {K : PySem.W.Frag} {lo : Int} {n : Nat} {m1 : Mem} {H1 : Hp} : Good K (Itr lo n) (rangeD lo n) (fun _ => True) m1 H1 := fun i m' H' s r k => by
  refine ⟨fun d e => ?_, fun e => ?_⟩
  · unfold rangeD at e
    rw [List.getElem?_map] at e
    obtain ⟨j, e1, e2⟩ := Option.map_eq_some_iff.mp e
    have hj : i < n := by
      have := (List.getElem?_eq_some_iff.mp e1).1
      simpa using this
    have : j = i := by
      rw [List.getElem?_range hj] at e1
      exact (Option.some.inj e1).symm
    subst this e2
    exact ⟨hj, fun x H2 y => ⟨by rw [y.1]; exact r, by rw [y.1]; exact Step.refl, by rw [y.2]; exact Rep.int⟩⟩
  · unfold rangeD at e
    simp at e
    exact e
def iR1 (t : TAm) : TIm := fun ρ m R => t ρ m fun ds m1 => int1At ds fun j => -(2 ^ 62) ≤ j ∧ j < 2 ^ 62 ∧ R (rangeD 0 j.toNat) (fun _ => True) m1
def iR2 (t : TAm) : TIm := fun ρ m R => t ρ m fun ds m1 => int2At ds fun i j => (-(2 ^ 62) ≤ i ∧ i < 2 ^ 62 ∧ -(2 ^ 62) ≤ j ∧ j < 2 ^ 62) ∧ R (rangeD i (j - i).toNat) (fun _ => True) m1
theorem mi_range1 {p pos : Pos} (hm : X.mg "range" = none) (ha : MA X B [a] la) (hg : Gl X "range" := by rfl) (hs : starEach [a] X.env = [(false, eval a X.env)] := by rfl) : MI X B tg (.Call (.Name "range" p) [a] [] pos) (iR1 la) := piImp (pi_range1 hg hm ha hs) fun σ H R ⟨ρ, m, Rm, A, q, k⟩ => by
  refine ⟨ρ, m, _, A, q, fun ds m1 vs H1 q1 r1 t1 x1 => ?_⟩
  unfold int1At at q1
  split at q1
  · obtain ⟨v, e, y⟩ := reps1 x1
    rw [Rep.int_iff.mp y] at e
    exact ⟨_, e, q1.1, q1.2.1, k _ _ _ _ _ q1.2.2 r1 t1 good_range⟩
  · exact q1.elim
def forC (chk : Mem → Prop) (g : TGm) (tb : TSm) (E : EndsM) : List D → StM → Mem → Prop
  | [], ρ, m => chk m ∧ E.nx ρ m
  | d :: r, ρ, m => chk m ∧ g d ρ m fun ρ2 m2 => tb { E with nx := forC chk g tb E r, ct := forC chk g tb E r, bk := E.nx } ρ2 m2
theorem forC.chk {chk : Mem → Prop} {g : TGm} {tb : TSm} {E : EndsM} {ds : List D} {ρ : StM} {m : Mem} (h : forC chk g tb E ds ρ m) : chk m := by
  cases ds with
  | nil => exact h.1
  | cons d r => exact h.1
def wFor (ti : TIm) (g : TGm) (tb : TSm) : TSm := fun E ρ m => ti ρ m fun ds chk m1 => forC chk g tb E ds ρ m1
theorem for_go {K : PySem.W.Frag} {ti : TIm} {g : TGm} {tb : TSm} {D : Ends} {σ : St} {H : Hp} (h : uS K B (wFor ti g tb) D σ H) : tFor (uI K B ti) (uG K B g) (uS K B tb) D σ H := by
  obtain ⟨ρ, m, E, A, q, n, rt, bk, ct⟩ := h
  refine ⟨ρ, m, _, A, q, fun ds chk m1 H1 J q1 r1 t1 gd => ?_⟩
  refine ⟨fun i mm σ' H' => mm = ds.length - i ∧ i ≤ ds.length ∧ ∃ ρ' m', At K B σ' H' ρ' m' ∧ Step m1 H1 m' H' ∧ forC chk g tb E (ds.drop i) ρ' m', ⟨ds.length, by simp, Nat.zero_le _, ρ, m1, A.step r1 t1, Step.refl, by simpa using q1⟩, ?_⟩
  rintro i mm σ' H' ⟨rfl, hi, ρ', m', A', t', q'⟩
  have G := gd i m' H' t' A'.r q'.chk
  by_cases hlt : i < ds.length
  · refine .inr ?_
    have e : ds[i]? = some ds[i] := by simp [hlt]
    obtain ⟨go, yl⟩ := G.1 _ e
    rw [List.drop_eq_getElem_cons hlt] at q'
    refine ⟨go, _, fun σ2 H2 z => ⟨ds.length - (i + 1), by omega, z⟩, fun x H2 y => ?_⟩
    obtain ⟨r2, t2, x2⟩ := yl x H2 y
    have t02 := t1.trans (t'.trans t2)
    refine ⟨_, ρ', m', _, x2, A'.step r2 t2, q'.2, ?_⟩
    intro ρ3 m3 σ3 H3 q3 r3 t3 s3
    have t03 := t02.trans t3
    refine ⟨ρ3, m3, _, (A'.step r2 t2).step' r3 t3 s3, q3, ?_, fun d m4 v H4 q4 r4 t4 x4 => rt d m4 v H4 q4 r4 (t03.trans t4) x4, n.trans t03, ?_⟩
    · intro ρ4 m4 σ4 H4 q4 r4 t4 s4
      exact ⟨rfl, hlt, ρ4, m4, ((A'.step r2 t2).step' r3 t3 s3).step' r4 t4 s4, t'.trans (t2.trans (t3.trans t4)), q4⟩
    · intro ρ4 m4 σ4 H4 q4 r4 t4 s4
      exact ⟨rfl, hlt, ρ4, m4, ((A'.step r2 t2).step' r3 t3 s3).step' r4 t4 s4, t'.trans (t2.trans (t3.trans t4)), q4⟩
  · have e : i = ds.length := by omega
    subst e
    rw [List.drop_length] at q'
    exact .inl ⟨G.2 (Nat.le_refl _), n _ _ _ _ q'.2 A'.r (t1.trans t') A'.s⟩
theorem ms_for {ti : TIm} {g : TGm} {tb : TSm} (hp : PassesOwn (model X.prog X.w) X.A X.env X.xe) (hc : X.calm = true) (hi : MI X B tg iter ti) (hg : MG X B tg g) (hb : MSs X B body tb)
    (hs : ∀ x, foldedSetIterable iter X.env x = pure x := by intro _; rfl) : MS X B (.For tg iter body [] pos) (wFor ti g tb) := psImp (ps_for hp hc hi hg hb hs) fun D σ H h => for_go h
def wWhile (c : TTm) (tb : TSm) : TSm := fun E ρ m => ∃ W : Nat → StM → Mem → Prop, (∃ n, W n ρ m) ∧ ∀ n ρ m, W n ρ m →
  c ρ m fun b m1 => if b = true then tb { E with nx := fun ρ' m' => ∃ n', n' < n ∧ W n' ρ' m', ct := fun ρ' m' => ∃ n', n' < n ∧ W n' ρ' m', bk := E.nx } ρ m1 else E.nx ρ m1
theorem ms_while {c : TTm} {tb : TSm} (hp : PassesOwn (model X.prog X.w) X.A X.env X.xe) (hc : MT X B e c) (hb : MSs X B body tb) : MS X B (.While e body [] pos) (wWhile c tb) := psImp (ps_while hp hc hb) fun D σ H ⟨ρ, m, E, A, q, n, rt, bk, ct⟩ => by
  obtain ⟨W, ⟨n0, w0⟩, turn⟩ := q
  refine ⟨fun k σ' H' => ∃ ρ' m', At X.K B σ' H' ρ' m' ∧ Step m H m' H' ∧ W k ρ' m', ⟨n0, ρ, m, A, Step.refl, w0⟩, ?_⟩
  rintro k σ' H' ⟨ρ', m', A', t', w'⟩
  refine ⟨ρ', m', _, A', turn k ρ' m' w', fun d m2 H2 q2 r2 t2 => ?_⟩
  have t02 := t'.trans t2
  cases d with
  | false => simp only [Bool.false_eq_true, if_false] at q2 ⊢; exact n _ _ _ _ q2 r2 t02 (A'.step r2 t2).s
  | true =>
    simp only [if_true] at q2 ⊢
    refine ⟨fun σ3 H3 => ∃ k', k' < k ∧ ∃ ρ' m', At X.K B σ3 H3 ρ' m' ∧ Step m H m' H3 ∧ W k' ρ' m', fun σ3 H3 ⟨k', lt, z⟩ => ⟨k', lt, z⟩, ?_⟩
    refine ⟨ρ', m2, _, A'.step r2 t2, q2, ?_, fun d m4 v H4 q4 r4 t4 x4 => rt d m4 v H4 q4 r4 (t02.trans t4) x4, n.trans t02, ?_⟩
    · intro ρ4 m4 σ4 H4 ⟨n', lt, q4⟩ r4 t4 s4
      exact ⟨n', lt, ρ4, m4, (A'.step r2 t2).step' r4 t4 s4, t02.trans t4, q4⟩
    · intro ρ4 m4 σ4 H4 ⟨n', lt, q4⟩ r4 t4 s4
      exact ⟨n', lt, ρ4, m4, (A'.step r2 t2).step' r4 t4 s4, t02.trans t4, q4⟩
def MTs (X : Cx) (B : Bs) (ifs : List Expr) (t : TTm) : Prop := PTs X ifs (uT X.K B t)
def wYes : TTm := fun _ m Q => Q true m
theorem mts_nil : MTs X B [] wYes := ⟨fun pins s σ H Q I ⟨ρ, m, Qm, A, q, k⟩ => pts_nil.run pins s σ H Q I (k _ _ _ q A.r Step.refl)⟩
def lcC (chk : Mem → Prop) (g : TGm) (tt : TTm) (te : TEm) (vs : List Nat) (ρ : StM) (Q : List D → Mem → Prop) : List D → List D → Mem → Prop
  | [], acc, m => chk m ∧ Q acc m
  | d :: r, acc, m => chk m ∧ g d (wipeM ρ vs) m fun ρ2 m2 => wipeM ρ2 vs = wipeM ρ vs ∧ tt ρ2 m2 fun b m3 => if b = true then te ρ2 m3 fun y m4 => acc.length < sizeLine ∧ lcC chk g tt te vs ρ Q r (acc ++ [y]) m4 else lcC chk g tt te vs ρ Q r acc m3
theorem lcC.chk {chk : Mem → Prop} {g : TGm} {tt : TTm} {te : TEm} {vs : List Nat} {ρ : StM} {Q : List D → Mem → Prop} {ds acc : List D} {m : Mem} (h : lcC chk g tt te vs ρ Q ds acc m) : chk m := by
  cases ds with
  | nil => exact h.1
  | cons d r => exact h.1
structure GOk (K : PySem.W.Frag) (B : Bs) (g : TGm) (g0 : TG) (vs : List Nat) : Prop where
  go : ∀ d v ρ σ m H (Qm : StM → Mem → Prop), Rep K H d v → At K B σ H ρ m → g d ρ m Qm → ∀ (Q : St → Hp → Prop), (∀ ρ' m' σ' H', Qm ρ' m' → RM K H' m' → Step m H m' H' → Ss K H' ρ' σ' → wipe σ' vs = wipe σ vs → Q σ' H') → g0 v σ H Q
theorem wipe_cons {σ : St} {v : Nat} {vs : List Nat} : wipe σ (v :: vs) = (wipe σ vs).set v none := rfl
theorem wipe_set {σ : St} {i : Nat} {o : Option V} : ∀ {vs : List Nat}, i ∈ vs → wipe (σ.set i o) vs = wipe σ vs
  | [], h => by simp at h
  | v :: vs, h => by
    rw [wipe_cons, wipe_cons]
    by_cases hi : i ∈ vs
    · rw [wipe_set hi]
    · have e : i = v := by simpa [hi] using h
      subst e
      have z : ∀ ws : List Nat, i ∉ ws → wipe (σ.set i o) ws = (wipe σ ws).set i o := by
        intro ws
        induction ws with
        | nil => intro _; rfl
        | cons w ws ih =>
          intro hn
          rw [wipe_cons, wipe_cons]
          rw [ih (fun z => hn (List.mem_cons_of_mem _ z)), List.set_comm]
          rintro rfl; exact hn List.mem_cons_self
      rw [z vs hi, List.set_set]
theorem gok_name {K : PySem.W.Frag} {i : Nat} {vs : List Nat} (h : i ∈ vs) : GOk K B (gN i) (gName i) vs := ⟨fun d v ρ σ m H Qm x A q Q k => k _ _ _ _ q A.r Step.refl (Ss.set x i A.s) (wipe_set h)⟩
def wLc (ti : TIm) (g : TGm) (tt : TTm) (te : TEm) (vs : List Nat) : TEm := fun ρ m Q => ti ρ m fun ds chk m1 => lcC chk g tt te vs ρ (fun acc m' => newO (.lst acc) m' Q) ds [] m1
theorem lc_gen {K : PySem.W.Frag} {ti : TIm} {g : TGm} {g0 : TG} {tt : TTm} {te : TEm} {vs : List Nat} {σ : St} {H : Hp} {Q : VK} {ρ : StM} {m : Mem} {QA : List D → Mem → Prop} (hg : GOk K B g g0 vs) (A : At K B σ H ρ m)
    (q : ti ρ m fun ds chk m1 => lcC chk g tt te vs ρ QA ds [] m1) (k : ∀ acc m' L H', QA acc m' → m' L = none → RM K H' (mput m' L (.lst acc)) → Step m H (mput m' L (.lst acc)) H' → (∃ xs, H' L = some (.lst xs)) → Q (.ref L) H') : tLc (uI K B ti) g0 (uT K B tt) (uE K B te) vs σ H Q := by
  refine ⟨ρ, m, _, A, q, fun ds chk m1 H1 J q1 r1 t1 gd => ?_⟩
  intro L hL
  have hL1 : m1 L = none := r1.out hL
  refine ⟨fun i mm H' => mm = ds.length - i ∧ i ≤ ds.length ∧ ∃ m' acc xs, RM K H' m' ∧ Step m1 H1 m' H' ∧ Nm m' L ∧ H' L = some (.lst xs) ∧ Reps K H' acc xs ∧ lcC chk g tt te vs ρ QA (ds.drop i) acc m',
    ⟨ds.length, by simp, Nat.zero_le _, m1, [], [], r1.hid hL, Step.hid r1 hL, .inl hL1, upd_same, Reps.nil, by simpa using q1⟩, ?_⟩
  rintro i mm H' ⟨rfl, hi, m', acc, xs, r', t', nL, eL, ra, q'⟩
  have G := gd i m' H' t' r' q'.chk
  by_cases hlt : i < ds.length
  · refine .inr ?_
    have e : ds[i]? = some ds[i] := by simp [hlt]
    obtain ⟨go, yl⟩ := G.1 _ e
    rw [List.drop_eq_getElem_cons hlt] at q'
    refine ⟨go, fun H2 => ∃ m' acc xs, RM K H2 m' ∧ Step m1 H1 m' H2 ∧ Nm m' L ∧ H2 L = some (.lst xs) ∧ Reps K H2 acc xs ∧ lcC chk g tt te vs ρ QA (ds.drop (i + 1)) acc m', fun H2 z => ⟨ds.length - (i + 1), by omega, rfl, hlt, z⟩, fun x H2 y => ?_⟩
    obtain ⟨r2, t2, x2⟩ := yl x H2 y
    have A2 : At K B (wipe σ vs) H2 (wipeM ρ vs) m' := ⟨((A.s.wipe vs).stay (t1.tups A.r)).stay ((t'.trans t2).tups r1), r2, B.cl _ _ _ _ A.b (t1.trans (t'.trans t2))⟩
    refine hg.go _ _ _ _ _ _ _ x2 A2 q'.2 _ fun ρ3 m3 σ3 H3 ⟨wm, q3⟩ r3 t3 s3 w3 => ?_
    have ww : wipe (wipe σ vs) vs = wipe σ vs := by
      have z : ∀ (σ : St) (i : Nat) (ws : List Nat), i ∈ ws → (wipe σ ws).set i none = wipe σ ws := by
        intro σ i ws
        induction ws with
        | nil => intro h; simp at h
        | cons w ws ih =>
          intro h
          rw [wipe_cons]
          by_cases e : i = w
          · subst e; rw [List.set_set]
          · have : i ∈ ws := by simpa [e] using h
            rw [List.set_comm _ _ (Ne.symm e), ih this]
      have z2 : ∀ (ws us : List Nat), (∀ i ∈ ws, i ∈ us) → wipe (wipe σ us) ws = wipe σ us := by
        intro ws
        induction ws with
        | nil => intro us _; rfl
        | cons w ws ih =>
          intro us h
          rw [wipe_cons]
          rw [ih us (fun i hi => h i (List.mem_cons_of_mem _ hi)), z σ w us (h w List.mem_cons_self)]
      exact z2 vs vs fun _ h => h
    refine ⟨w3.trans ww, ρ3, m3, _, A2.step' r3 t3 s3, q3, fun bb m4 H4 q4 r4 t4 => ?_⟩
    have tA : Step m' H' m4 H4 := t2.trans (t3.trans t4)
    cases bb with
    | false =>
      simp only [Bool.false_eq_true, if_false] at q4 ⊢
      obtain ⟨e5, n5⟩ := tA L _ eL nL
      exact ⟨m4, acc, xs, r4, t'.trans tA, n5, e5, ra.stay (tA.tups r'), q4⟩
    | true =>
      simp only [if_true] at q4 ⊢
      refine ⟨ρ3, m4, _, (A2.step' r3 t3 s3).step r4 t4, q4, fun yd m5 yv H5 ⟨z5, q5⟩ r5 t5 x5 => ?_⟩
      have tB := tA.trans t5
      obtain ⟨e5, n5⟩ := tB L _ eL nL
      have ra5 := ra.stay (tB.tups r')
      have tC : Step m5 H5 m5 (upd H5 L (.lst (xs ++ [yv]))) → True := fun _ => trivial
      have ts : TupS K H5 (upd H5 L (.lst (xs ++ [yv]))) := by
        have ne : ∀ a o, H5 a = some o → (∀ z, o ≠ .lst z) → upd H5 L (.lst (xs ++ [yv])) a = some o := fun a o h1 h2 => by
          rw [upd_ne]; exact h1
          rintro rfl; rw [e5] at h1; cases h1; exact h2 _ rfl
        intro a ys n hy
        rcases hy with hy | ⟨z, hy⟩
        · exact .inl (ne _ _ hy fun _ z => by cases z)
        · refine .inr ⟨z, ?_⟩
          rcases hy with (hy | ⟨ob, hy⟩) | hy
          · exact .inl (.inl (ne _ _ hy fun _ z => by cases z))
          · exact .inl (.inr ⟨ob, ne _ _ hy fun _ z => by cases z⟩)
          · exact .inr hy
      refine ⟨xs, e5, by rw [← ra5.length]; exact z5, m5, acc ++ [yd], xs ++ [yv], ?_, ?_, n5, upd_same, (ra5.append (Reps.cons x5 Reps.nil)).stay ts, q5⟩
      · intro a o ho
        obtain ⟨w, h1, h2⟩ := r5 a o ho
        have ne : a ≠ L := by
          rintro rfl
          rcases n5 with n5 | ⟨o', n5⟩
          · rw [n5] at ho; cases ho
          · rw [n5] at ho; cases ho
            obtain ⟨ob, v, e6, _⟩ := h2
            rw [e5] at h1; cases h1; cases e6
        exact ⟨w, by rw [upd_ne ne]; exact h1, h2.stay ts⟩
      · intro a w h1 n1
        have ne : a ≠ L := by rintro rfl; rw [hL] at h1; cases h1
        obtain ⟨h2, n2⟩ := (t'.trans tB) a w h1 n1
        exact ⟨by rw [upd_ne ne]; exact h2, n2⟩
  · have e : i = ds.length := by omega
    subst e
    rw [List.drop_length] at q'
    refine .inl ⟨G.2 (Nat.le_refl _), ?_⟩
    have mL : m' L = none := by
      rcases nL with h | ⟨o, h⟩
      · exact h
      · obtain ⟨w, h1, ob, v, e6, _⟩ := r' L _ h
        rw [eL] at h1; cases h1; cases e6
    refine k _ _ _ _ q'.2 mL ?_ ?_ ⟨_, eL⟩
    · intro a o ho
      by_cases ne : a = L
      · subst ne
        rw [mput_same] at ho; cases ho
        exact ⟨_, eL, xs, rfl, ra⟩
      · rw [mput_ne ne] at ho
        exact r' a o ho
    · intro a w h1 n1
      obtain ⟨h2, n2⟩ := t1 a w h1 n1
      have ne : a ≠ L := by rintro rfl; rw [hL] at h2; cases h2
      obtain ⟨h3, n3⟩ := t' a w h2 n2
      refine ⟨h3, ?_⟩
      rcases n3 with n3 | ⟨o, n3⟩
      · exact .inl (by rw [mput_ne ne]; exact n3)
      · exact .inr ⟨o, by rw [mput_ne ne]; exact n3⟩
theorem lc_go {K : PySem.W.Frag} {ti : TIm} {g : TGm} {g0 : TG} {tt : TTm} {te : TEm} {vs : List Nat} {σ : St} {H : Hp} {Q : VK} (hg : GOk K B g g0 vs) (h : uE K B (wLc ti g tt te vs) σ H Q) : tLc (uI K B ti) g0 (uT K B tt) (uE K B te) vs σ H Q := by
  obtain ⟨ρ, m, Qm, A, q, k⟩ := h
  exact lc_gen hg A q fun acc m' L H' qa mL r t _ => k _ _ _ _ (qa L mL) r t Rep.ref
theorem mx_lc {elt : Expr} {ifs : List Expr} {scope : Scope} {own : List (Str × Nat)} {ti : TIm} {g : TGm} {g0 : TG} {tt : TTm} {te : TEm} (hc : X.calm = true) (hN : X.N.Nodup) (hi : MI X B tg iter ti) (ok : BlkOk X.N X.env.scope scope own)
    (hg : ∀ (s : Shared) (H : Hp) (C : Addr) (cl : List (Str × Addr)) (fp : List Addr), PG (X.blk s H scope (compEnvC scope cl C X.env) fp) tg g0) (gk : GOk X.K B g g0 (own.map (·.2)))
    (ht : ∀ (s : Shared) (H : Hp) (C : Addr) (cl : List (Str × Addr)) (fp : List Addr), MTs (X.blk s H scope (compEnvC scope cl C X.env) fp) B ifs tt)
    (he : ∀ (s : Shared) (H : Hp) (C : Addr) (cl : List (Str × Addr)) (fp : List Addr), MX (X.blk s H scope (compEnvC scope cl C X.env) fp) B elt te) (hs : ∀ x, foldedSetIterable iter X.env x = pure x := by intro _; rfl) :
    MX X B (.ListComp elt [⟨tg, iter, ifs, 0⟩] scope pos) (wLc ti g tt te (own.map (·.2))) := peImp (pe_lc (tt := uT X.K B tt) (te := uE X.K B te) hc hN hi ok hg ht he hs) fun σ H Q h => lc_go gk h
end
end Mm
namespace Mm
open PySem L2
open PyProof.Rows (envOfC)
abbrev XM := Addr → Mem → Prop
abbrev SpM := List D → Mem → KM → XM → Prop
def liftSp (K : PySem.W.Frag) (sp : SpM) : Sp := fun vs H Q E => ∃ ds m Qm Em, Reps K H ds vs ∧ RM K H m ∧ sp ds m Qm Em ∧
  (∀ d m' v H', Qm d m' → RM K H' m' → Step m H m' H' → Rep K H' d v → Q v H') ∧ ∀ C m' H', Em C m' → RM K H' m' → Step m H m' H' → E (.ref C) none H'
abbrev FnM (P : Program) (w : World) (K : PySem.W.Frag) (mg : Str → Option Value) (base : Heap) (CX : CXT) (k : Nat) (f : Addr) (fd : FuncData) (ps : List Str) (sp : SpM) : Prop := FnOk P w K mg base CX k f fd ps (liftSp K sp)
def uX (K : PySem.W.Frag) (B : Bs) (Em : XM) : XK := fun cls d H' => ∃ C m', cls = .ref C ∧ d = none ∧ Em C m' ∧ RM K H' m' ∧ B.P m' H'
def noX : XM := fun _ _ => False
def wCall (sp : SpM) (Em : XM) (t : TAm) : TEm := fun ρ m Q => t ρ m fun ds m1 => sp ds m1 Q Em
section
variable {X : Cx} {B : Bs} {e o : Expr} {es : List Expr} {pos p apos : Pos} {la : TAm} {pa : TEm} {CX : CXT} {k : Nat} {f C : Addr} {fd : FuncData} {ps : List Str} {sp : SpM} {Em : XM} {x n : Str}
theorem call_go {K : PySem.W.Frag} {σ : St} {H : Hp} {Q : VK} (h : uE K B (wCall sp Em la) σ H Q) : tCall (liftSp K sp) [] (uX K B Em) (uA K B la) σ H Q := by
  obtain ⟨ρ, m, Qm, A, q, k⟩ := h
  refine ⟨ρ, m, _, A, q, fun ds m1 vs H1 q1 r1 t1 x1 => ?_⟩
  show liftSp K sp (vs ++ []) H1 Q (uX K B Em)
  rw [List.append_nil]
  exact ⟨ds, m1, Qm, Em, x1, r1, q1, fun d m' v H' q2 r2 t2 x2 => k d m' v H' q2 r2 (t1.trans t2) x2, fun C m' H' q2 r2 t2 => ⟨C, m', rfl, rfl, q2, r2, B.cl _ _ _ _ A.b (t1.trans t2)⟩⟩
theorem mx_call (F : FnM X.prog X.w X.K X.mg X.base CX k f fd ps sp) (hr : Room k X.A) (hm : X.mg x = some (.ref f)) (hk : PySem.W.keepIn X.K (.ref f) = true) (hb : Binds X.K fd ps []) (hx : Passes CX X (uX X.K B Em))
    (ha : MA X B (e :: es) la) (hg : Gl X x := by rfl) (hdb : (x == ("__debug__" : Str)) = false := by decide) (he : starEach (e :: es) X.env = (false, eval e X.env) :: starEach es X.env := by rfl) (hpl : (backTo pos (starEach es X.env)).any (·.1) = false := by rfl) :
    MX X B (.Call (.Name x p) (e :: es) [] pos) (wCall sp Em la) := peImp (pe_call F hr hg hm hk hb .nil hx ha hdb he hpl) fun σ H Q h => call_go h
theorem pass0M {X : Cx} {E : XK} : Passes CX0 X E := fun _ _ _ _ _ _ _ h => h.elim
def stepB (m : Mem) (H : Hp) : Bs := ⟨fun m' H' => Step m H m' H', fun _ _ _ _ a b => a.trans b⟩
def startM (N : List Str) (ds : List D) : StM := ds.map some ++ List.replicate (N.length - ds.length) none
theorem ss_start {K : PySem.W.Frag} {H : Hp} (N : List Str) : ∀ {ds : List D} {vs : List V}, Reps K H ds vs → Ss K H (startM N ds) (L2.start N vs) := by
  intro ds vs h
  have e := h.length
  unfold startM L2.start
  rw [e]
  generalize N.length - vs.length = n
  clear e
  induction ds generalizing vs with
  | nil =>
    rw [Reps.nil_iff.mp h]
    induction n with
    | zero => exact .nil
    | succ n ih => exact .cons trivial ih
  | cons d ds ih =>
    obtain ⟨v, r, e, x, y⟩ := Reps.cons_iff.mp h
    subst e
    exact .cons x (ih y)
def RtM (Q : KM) : KM := fun d m' => ∃ m0, Sub m0 m' ∧ Q d m0
theorem RtM.mk {Q : KM} {d : D} {m : Mem} (h : Q d m) : RtM Q d m := ⟨m, Sub.refl, h⟩
theorem fn_m {P : Program} {w : World} {K : PySem.W.Frag} {mg : Str → Option Value} {base : Heap} {qual : Str} {st : Stmt} {N : List Str} (F : Fun K x qual st f fd) (S : FnScope N ps (defScope st)) (len : ∀ ds m Q E, sp ds m Q E → ds.length = ps.length)
    (hbody : ∀ (cdv : Value) (A : Around) (outer : List Env) (s : Shared) (H : Hp) (ds : List D) (m : Mem) (Q : KM) (E : XM) (E' : XK), Room k (A.deeper (envOfC qual (defScope st) s.heap.objs.size f cdv)) → sp ds m Q E →
      ∃ p, MSs (cxOf CX0 P w K mg base N qual (defScope st) f cdv A outer s H E').nox (stepB m H) (defBody st) p ∧ p { nx := fun _ m' => RtM Q .non m', rt := RtM Q } (startM N ds) m) : FnM P w K mg base CX0 (k + 1) f fd ps sp := by
  refine F.ok S (fun vs H Q E ⟨ds, m, Qm, Em, x, r, q, _⟩ => by rw [← x.length]; exact len _ _ _ _ q) fun cdv A outer s H vs Q E hr ⟨ds, m, Qm, Em, x, r, q, k1, k2⟩ => ?_
  obtain ⟨p, hp, go⟩ := hbody cdv A outer s H ds m Qm Em E hr q
  refine ⟨_, hp, startM N ds, m, _, ⟨ss_start N x, r, Step.refl⟩, go, ?_, ?_, ?_, ?_⟩
  · intro ρ' m' σ' H' ⟨m0, sb, q'⟩ r' t' s'
    exact k1 _ _ _ _ q' (r'.sub sb) (t'.sub sb) Rep.non
  · intro d m' v H' ⟨m0, sb, q'⟩ r' t' x'
    exact k1 _ _ _ _ q' (r'.sub sb) (t'.sub sb) x'
  · intro ρ' m' σ' H' z; exact z.elim
  · intro ρ' m' σ' H' z; exact z.elim
end
def kD : Key → D
  | .inl i => .int i
  | .inr x => .str x
theorem kD_rep {K : PySem.W.Frag} {H : Hp} {k : Key} {v : V} (h : Rep K H (kD k) v) : v = kV k := by
  cases k with
  | inl i => exact Rep.int_iff.mp h
  | inr x => exact Rep.str_iff.mp h
theorem kDs_rep {K : PySem.W.Frag} {H : Hp} : ∀ {ks : List Key} {vs : List V}, Reps K H (ks.map kD) vs → vs = ks.map kV
  | [], _, h => by rw [Reps.nil_iff.mp h]; rfl
  | k :: ks, _, h => by
    obtain ⟨v, r, e, x, y⟩ := Reps.cons_iff.mp h
    rw [e, kD_rep x, kDs_rep y]; rfl
section
variable {κ : Type} [DecidableEq κ]
def valD (kvs : List (κ × D)) (k : κ) : Option D := (kvs.find? fun kv => decide (kv.1 = k)).map (·.2)
def putD (kvs : List (κ × D)) (k : κ) (v : D) : List (κ × D) :=
  if (kvs.any fun kv => decide (kv.1 = k)) = true then kvs.map (fun kv => if kv.1 = k then (kv.1, v) else kv) else kvs ++ [(k, v)]
variable {K : PySem.W.Frag} {H : Hp}
theorem KVs.val {k : κ} : ∀ {a : List (κ × D)} {b : List (κ × V)}, KVs K H a b → (∀ d, valD a k = some d → ∃ v, valV b k = some v ∧ Rep K H d v) ∧ (valD a k = none → valV b k = none)
  | _, _, .nil => ⟨fun d e => by simp [valD] at e, fun _ => rfl⟩
  | _, _, .cons (a := p) (b := q) (l₁ := as) h r => by
    obtain ⟨i1, i2⟩ := KVs.val (k := k) r
    by_cases e : p.1 = k
    · have e' : q.1 = k := h.1 ▸ e
      refine ⟨fun d z => ?_, fun z => ?_⟩
      · simp [valD, List.find?_cons, e] at z
        subst z
        exact ⟨q.2, valV_pos e', h.2⟩
      · simp [valD, List.find?_cons, e] at z
    · have e' : ¬ q.1 = k := fun z => e (h.1.trans z)
      have z : valD (p :: as) k = valD as k := by simp [valD, List.find?_cons, e]
      rw [z, valV_neg e']
      exact ⟨i1, i2⟩
theorem KVs.length : ∀ {a : List (κ × D)} {b : List (κ × V)}, KVs K H a b → a.length = b.length
  | _, _, .nil => rfl
  | _, _, .cons h r => by simp [KVs.length r]
theorem KVs.put {k : κ} {d : D} {v : V} (hd : Rep K H d v) {a : List (κ × D)} {b : List (κ × V)} (h : KVs K H a b) : KVs K H (putD a k d) (putK b k v) := by
  have e1 : (a.any fun kv => decide (kv.1 = k)) = (b.any fun kv => decide (kv.1 = k)) := by
    induction h with
    | nil => rfl
    | cons h r ih => simp only [List.any_cons, h.1, ih]
  unfold putD putK
  rw [e1]
  split
  · rename_i hh
    clear e1 hh
    induction h with
    | nil => exact .nil
    | @cons p q as bs h r ih =>
      refine .cons ?_ ih
      by_cases e : p.1 = k
      · have e' : q.1 = k := h.1 ▸ e
        simp only [if_pos e, if_pos e']; exact ⟨h.1, hd⟩
      · have e' : ¬ q.1 = k := fun z => e (h.1.trans z)
        simp only [if_neg e, if_neg e']; exact h
  · rename_i hh
    clear e1 hh
    induction h with
    | nil => exact .cons ⟨rfl, hd⟩ .nil
    | cons h r ih => exact .cons h ih
end
def getO (o : O) (y : D) (r : Option D) : Prop := match o with
  | .dK kvs => ∃ k, y = kD k ∧ r = valD kvs k
  | .dT kvs => ∃ ks : List Key, y = .tup (ks.map kD) ∧ ks.length ≠ 1 ∧ ks.length ≠ 5 ∧ r = valD kvs ks
  | _ => False
def putO (o : O) (y d : D) (o' : O) : Prop := match o with
  | .dK kvs => ∃ k, y = kD k ∧ kvs.length < sizeLine ∧ o' = .dK (putD kvs k d)
  | .dT kvs => ∃ ks : List Key, y = .tup (ks.map kD) ∧ ks.length ≠ 1 ∧ ks.length ≠ 5 ∧ kvs.length < sizeLine ∧ o' = .dT (putD kvs ks d)
  | _ => False
section
variable {K : PySem.W.Frag} {H : Hp} {m : Mem} {a : Addr} {o o' : O} {y d : D} {v z : V}
theorem tup_at {ks : List Key} (h : Rep K H (.tup (ks.map kD)) v) (h1 : ks.length ≠ 1) (h5 : ks.length ≠ 5) : ∃ b, v = .ref b ∧ H b = some (.tup (ks.map kV)) := by
  obtain ⟨b, xs, e, t, r⟩ := Rep.tup_iff.mp h
  rw [kDs_rep r] at t
  rcases t with t | ⟨n, _⟩
  · exact ⟨b, e, t⟩
  · rw [List.length_map] at n
    omega
theorem get_go {r : Option D} (rm : RM K H m) (e : rdM m a = some o) (g : getO o y r) (hy : Rep K H y v) : ∃ r', DGet H a v r' ∧ (∀ d, r = some d → ∃ w, r' = some w ∧ Rep K H d w) ∧ (r = none → r' = none) := by
  obtain ⟨u, h1, h2⟩ := rd_go rm e
  unfold getO at g
  split at g
  · obtain ⟨k, rfl, rfl⟩ := g
    obtain ⟨xs, rfl, kv⟩ := h2
    exact ⟨valV xs k, .inl ⟨xs, k, h1, kD_rep hy, rfl⟩, kv.val.1, kv.val.2⟩
  · obtain ⟨ks, rfl, n1, n5, rfl⟩ := g
    obtain ⟨xs, rfl, kv⟩ := h2
    obtain ⟨b, e1, e2⟩ := tup_at hy n1 n5
    exact ⟨valV xs ks, .inr ⟨xs, ks, b, h1, e1, e2, rfl⟩, kv.val.1, kv.val.2⟩
  · exact g.elim
theorem put_go (rm : RM K H m) (e : m a = some o) (g : putO o y d o') (hy : Rep K H y v) (hd : Rep K H d z) : ∃ u, DPut H a v z (upd H a u) ∧ RM K (upd H a u) (mput m a o') ∧ Step m H (mput m a o') (upd H a u) := by
  obtain ⟨u, h1, h2⟩ := rm a o e
  unfold putO at g
  split at g
  · obtain ⟨k, rfl, n, rfl⟩ := g
    obtain ⟨xs, rfl, kv⟩ := h2
    exact ⟨.dK (putK xs k z), .inl ⟨xs, k, h1, kD_rep hy, by rw [← kv.length]; exact n, rfl⟩, rm.put e trivial ⟨_, rfl, kv.put hd⟩, Step.put rm e trivial⟩
  · obtain ⟨ks, rfl, n1, n5, n, rfl⟩ := g
    obtain ⟨xs, rfl, kv⟩ := h2
    obtain ⟨b, e1, e2⟩ := tup_at hy n1 n5
    exact ⟨.dT (putK xs ks z), .inr ⟨xs, ks, b, h1, e1, e2, by rw [← kv.length]; exact n, rfl⟩, rm.put e trivial ⟨_, rfl, kv.put hd⟩, Step.put rm e trivial⟩
  · exact g.elim
end
section
variable {X : Cx} {B : Bs} {o i e f value : Expr} {st : Stmt} {pos pos' apos cpos : Pos} {pa pb pc : TEm}
def isDO : O → Prop
  | .dK _ => True
  | .dT _ => True
  | _ => False
def wGet2 (pa pb pc : TEm) : TEm := fun ρ m Q => pa ρ m fun x m1 => refAt x fun a => (∃ o, rdM m1 a = some o ∧ isDO o) ∧ pb ρ m1 fun y m2 => pc ρ m2 fun z m3 => ∃ o r, rdM m3 a = some o ∧ getO o y r ∧ Q (r.getD z) m3
def wPut (pa pb pc : TEm) : TSm := fun E ρ m => pc ρ m fun z m1 => pa ρ m1 fun x m2 => pb ρ m2 fun y m3 => refAt x fun a => ∃ o o', m3 a = some o ∧ putO o y z o' ∧ E.nx ρ (mput m3 a o')
theorem ms_dput (hu : X.A.units + 1 < cLine) (ho : MX X B o pa) (hi : MX X B i pb) (hv : MX X B value pc) (hs : swapsWith value (some (.Subscript o i pos')) pos.line X.env = pure false := by rfl) : MS X B (.Assign [.Subscript o i pos'] value pos) (wPut pa pb pc) :=
  psImp (ps_dput hu ho hi hv hs) fun D σ H ⟨ρ, m, E, A, q, n, _⟩ => by
  refine ⟨ρ, m, _, A, q, fun z m1 u H1 q1 r1 t1 x1 => ?_⟩
  refine ⟨ρ, m1, _, A.step r1 t1, q1, fun x m2 v H2 q2 r2 t2 x2 => ?_⟩
  refine ⟨ρ, m2, _, (A.step r1 t1).step r2 t2, q2, fun y m3 w H3 q3 r3 t3 x3 => ?_⟩
  have t23 := t2.trans t3
  unfold refAt at q3
  split at q3
  · obtain ⟨ob, ob', e1, g, q3⟩ := q3
    obtain ⟨uo, dp, rm, st⟩ := put_go r3 e1 g x3 (x1.stay (t23.tups r1))
    have t4 := t1.trans (t23.trans st)
    exact ⟨_, _, Rep.ref_iff.mp x2, dp, n _ _ _ _ q3 rm t4 (A.step rm t4).s⟩
  · exact q3.elim
end
end Mm
namespace Mm
open PySem L2
open PyProof.Rows (envOfC)
theorem hu1 {A : Around} {k : Nat} (hr : Room k A) : A.units + 1 < cLine := hu_of hr
theorem hu65 {A : Around} {k : Nat} (hr : Room k A) : A.units + 65 < cLine := by have := hr.un; omega
section
variable {X : Cx} {B : Bs} {e a b c o i value : Expr} {es : List Expr} {pos pos' apos cpos : Pos} {pa pb pc : TEm} {la : TAm}
def wSub : R2m := fun x y m Q => match x with
  | .tup ds => match y with
    | .int i => ∃ d, atI ds i = some d ∧ Q d m
    | _ => False
  | .str z => match y with
    | .int i => z.length ≤ sizeLine ∧ ∃ c, atI z.cps.toList i = some c ∧ Q (.str ⟨#[c]⟩) m
    | _ => False
  | .ref a => ∃ o, rdM m a = some o ∧ match o with
    | .lst ds => ∃ i d, y = .int i ∧ atI ds i = some d ∧ Q d m
    | o => ∃ d, getO o y (some d) ∧ Q d m
  | _ => False
def rDG : R2 := fun x y H Q => ∃ a v, x = .ref a ∧ DGet H a y (some v) ∧ Q v H
theorem ix_dict (hu : X.A.units + 1 < cLine) : IxR X rDG := by
  intro value slice pins s σ H x y v u Q I rx ry h hs
  obtain ⟨a, w, rfl, g, q⟩ := h
  obtain rfl : v = Value.ref a := rx
  exact PyProof.Rows.tail_any (dict_typeIs I g) PySem.F.slot_dict_getitem.lookup (d_getItem hu I g ry fun w' s3 I3 rw' => ⟨w, H, I3, rw', q⟩) hs
theorem mi_sub_u (hu : X.A.units + 65 < cLine) : MIx X wSub := mix_of (ix_seq.or (ix_dict (by omega))) fun x y v w H m Q Qm hx hy r q k => by
  unfold wSub at q
  split at q
  · split at q
    · obtain ⟨d, e, q⟩ := q
      obtain ⟨a, xs, e1, s, rr⟩ := Rep.tup_iff.mp hx
      obtain ⟨v', e2, x2⟩ := atI_rep rr e
      exact .inl (.inr (.inl ⟨a, xs, _, v', e1, Rep.int_iff.mp hy, s.sq, e2, k _ _ _ _ q r Step.refl x2⟩))
    · exact q.elim
  · split at q
    · obtain ⟨z, c, e, q⟩ := q
      exact .inl (.inr (.inr ⟨_, _, c, Rep.str_iff.mp hx, Rep.int_iff.mp hy, z, e, k _ _ _ _ q r Step.refl Rep.str⟩))
    · exact q.elim
  · obtain ⟨o, e0, q⟩ := q
    split at q
    · obtain ⟨i, d, e3, e, q⟩ := q
      subst e3
      obtain ⟨xs, s, rr⟩ := rd_lst r e0
      obtain ⟨v', e2, x2⟩ := atI_rep rr e
      exact .inl (.inl ⟨_, xs, _, v', Rep.ref_iff.mp hx, Rep.int_iff.mp hy, s, e2, k _ _ _ _ q r Step.refl x2⟩)
    · obtain ⟨d, g, q⟩ := q
      obtain ⟨r', g', h1, _⟩ := get_go r e0 g hy
      obtain ⟨w', e2, x3⟩ := h1 d rfl
      subst e2
      exact .inr ⟨_, w', Rep.ref_iff.mp hx, g', k _ _ _ _ q r Step.refl x3⟩
  · exact q.elim
theorem mi_sub {k : Nat} (hr : Room k X.A) : MIx X wSub := mi_sub_u (hu65 hr)
def wPlus : R2m := fun x y m Q => match x, y with
  | .int i, .int j => Q (.int (i + j)) m
  | .str i, .str j => i.length + j.length ≤ sizeLine ∧ Q (.str (i ++ j)) m
  | .tup ds, .tup es => ds.length + es.length ≤ sizeLine ∧ Q (.tup (ds ++ es)) m
  | .ref a, .ref b => ∃ ds es, m a = some (.lst ds) ∧ m b = some (.lst es) ∧ ds.length + es.length ≤ sizeLine ∧ newO (.lst (ds ++ es)) m Q
  | _, _ => False
theorem mo_plus : MOp X (binaryOp .Add) wPlus := mop_of (OpR.or op_add (OpR.or op_add_str (OpR.or op_catA op_cat))) fun x y v w H m Q Qm hx hy r q k => by
  unfold wPlus at q
  split at q
  · exact .inl ⟨_, _, Rep.int_iff.mp hx, Rep.int_iff.mp hy, k _ _ _ _ q r Step.refl Rep.int⟩
  · exact .inr (.inl ⟨_, _, Rep.str_iff.mp hx, Rep.str_iff.mp hy, q.1, k _ _ _ _ q.2 r Step.refl Rep.str⟩)
  · rename_i ds es
    obtain ⟨a, xs, e1, s1, r1⟩ := Rep.tup_iff.mp hx
    obtain ⟨b, ys, e2, s2, r2⟩ := Rep.tup_iff.mp hy
    have h1 := r1.length
    have h2 := r2.length
    refine .inr (.inr (.inl ⟨a, b, xs, ys, e1, e2, s1.sq, s2.sq, by rw [← h1, ← h2]; exact q.1, fun z => ?_, fun z1 z2 => ?_, fun z1 z2 p hp => ?_⟩))
    · subst z
      have : ds = [] := by cases ds with | nil => rfl | cons _ _ => simp at h1
      subst this
      exact k _ _ _ _ q.2 r Step.refl (by rw [← e2]; exact hy)
    · subst z2
      have : es = [] := by cases es with | nil => rfl | cons _ _ => simp at h2
      subst this
      exact k _ _ _ _ q.2 r Step.refl (by rw [List.append_nil, ← e1]; exact hx)
    · exact k _ _ _ _ q.2 (r.hid hp) (Step.hid r hp) (Rep.tup_iff.mpr ⟨p, _, rfl, TupAt.of upd_same, (r1.append r2).stay ((Step.hid (u := .tup (xs ++ ys)) r hp).tups r)⟩)
  · obtain ⟨ds, es, e1, e2, z, q⟩ := q
    obtain ⟨u1, h1, xs, rfl, r1⟩ := r _ _ e1
    obtain ⟨u2, h2, ys, rfl, r2⟩ := r _ _ e2
    exact .inr (.inr (.inr ⟨_, _, xs, ys, Rep.ref_iff.mp hx, Rep.ref_iff.mp hy, h1, h2, by rw [← r1.length, ← r2.length]; exact z, new_go q r Step.refl ⟨_, rfl, r1.append r2⟩ k⟩))
  · exact q.elim
def wTimes : R2m := fun x y m Q => match x, y with
  | .int i, .int j => (CMul i j ∨ CMulW i j) ∧ Q (.int (i * j)) m
  | .str s, .int n => MulOk s n ∧ Q (.str (Txt.mul s n)) m
  | _, _ => False
theorem op_mulS : OpR X (binaryOp .Mult) (fun x y H Q => ∃ s n, x = .str s ∧ y = .int n ∧ MulOk s n ∧ Q (.str (Txt.mul s n)) H) := by
  intro pins s σ H x y v u Q I rx ry h
  obtain ⟨z, n, rfl, rfl, ok, q⟩ := h
  obtain ⟨t, rfl⟩ := rx
  obtain ⟨t', rfl⟩ := ry
  exact PySem.SB.mul ok fun t'' k => ⟨.str _, H, I.tok _, ⟨_, rfl⟩, q⟩
theorem mo_times : MOp X (binaryOp .Mult) wTimes := mop_of (OpR.or op_mul (OpR.or op_mulW op_mulS)) fun x y v w H m Q Qm hx hy r q k => by
  unfold wTimes at q
  split at q
  · rcases q.1 with z | z
    · exact .inl ⟨_, _, Rep.int_iff.mp hx, Rep.int_iff.mp hy, z, k _ _ _ _ q.2 r Step.refl Rep.int⟩
    · exact .inr (.inl ⟨_, _, Rep.int_iff.mp hx, Rep.int_iff.mp hy, z, k _ _ _ _ q.2 r Step.refl Rep.int⟩)
  · exact .inr (.inr ⟨_, _, Rep.str_iff.mp hx, Rep.int_iff.mp hy, q.1, k _ _ _ _ q.2 r Step.refl Rep.str⟩)
  · exact q.elim
mutual
inductive Vw (m : Mem) : D → PyData → Prop
  | non : Vw m .non .none
  | bl (b : Bool) : Vw m (.bl b) (.bool b)
  | int (i : Int) : Vw m (.int i) (.int i)
  | str (x : Str) : Vw m (.str x) (.str x)
  | tup {ds : List D} {ts : List PyData} : VwA m ds ts → Vw m (.tup ds) (.tuple ts)
  | lst {a : Addr} {ds : List D} {ts : List PyData} : rdM m a = some (.lst ds) → VwA m ds ts → Vw m (.ref a) (.list ts)
inductive VwA (m : Mem) : List D → List PyData → Prop
  | nil : VwA m [] []
  | cons {d : D} {ds : List D} {t : PyData} {ts : List PyData} : Vw m d t → VwA m ds ts → VwA m (d :: ds) (t :: ts)
end
mutual
theorem Vw.dp {K : PySem.W.Frag} {H : Hp} {m : Mem} (r : RM K H m) : ∀ (t : PyData) (d : D) (v : V), Vw m d t → Rep K H d v → Dp K H v t
  | .none, _, _, h, x => by cases h; rw [Rep.non_iff.mp x]; exact .non
  | .bool b, _, _, h, x => by cases h; rw [Rep.bl_iff.mp x]; exact .bl b
  | .int i, _, _, h, x => by cases h; rw [Rep.int_iff.mp x]; exact .int i
  | .str z, _, _, h, x => by cases h; rw [Rep.str_iff.mp x]; exact .str z
  | .tuple ts, _, _, h, x => by
    cases h with
    | tup h =>
      obtain ⟨a, xs, rfl, s, rr⟩ := Rep.tup_iff.mp x
      exact .tup s.sq (VwA.dp r ts _ _ h rr)
  | .list ts, _, _, h, x => by
    cases h with
    | lst e h =>
      obtain ⟨xs, s, rr⟩ := rd_lst r e
      rw [Rep.ref_iff.mp x]
      exact .lst s (VwA.dp r ts _ _ h rr)
  | .dict _, _, _, h, _ => by cases h
theorem VwA.dp {K : PySem.W.Frag} {H : Hp} {m : Mem} (r : RM K H m) : ∀ (ts : List PyData) (ds : List D) (vs : List V), VwA m ds ts → Reps K H ds vs → DpAll K H vs ts
  | [], _, _, h, x => by cases h; rw [Reps.nil_iff.mp x]; exact .nil
  | t :: ts, _, _, h, x => by
    cases h with
    | cons h1 h2 =>
      obtain ⟨v, w, rfl, y, z⟩ := Reps.cons_iff.mp x
      exact .cons (Vw.dp r t _ _ h1 y) (VwA.dp r ts _ _ h2 z)
end
def SameD (m : Mem) (a b : Addr) : Prop := ∃ ks ls : List (Key × D), m a = some (.dK ks) ∧ m b = some (.dK ls) ∧ ks.length = ls.length ∧ ∀ p ∈ ks, valD ls p.1 = some p.2 ∧ ((∃ i, p.2 = .int i) ∨ ∃ x, p.2 = .str x)
def EqB (m : Mem) (x y : D) (k : Bool) : Prop :=
  scD x y = some k ∨ (∃ t u, Vw m x t ∧ Vw m y u ∧ SeqAt.shaped t = true ∧ SeqAt.shaped u = true ∧ k = PyData.eqv t u) ∨ (k = true ∧ ∃ a b, x = .ref a ∧ y = .ref b ∧ SameD m a b)
theorem kvs_same {K : PySem.W.Frag} {H : Hp} {m : Mem} {a b : Addr} (r : RM K H m) (h : SameD m a b) : ∃ ks ls, H a = some (.dK ks) ∧ H b = some (.dK ls) ∧ ks.length = ls.length ∧ ∀ p ∈ ks, valV ls p.1 = some p.2 ∧ flatB p.2 = true := by
  obtain ⟨ks, ls, e1, e2, hl, h⟩ := h
  obtain ⟨u1, h1, xs, rfl, r1⟩ := r _ _ e1
  obtain ⟨u2, h2, ys, rfl, r2⟩ := r _ _ e2
  refine ⟨xs, ys, h1, h2, by rw [← r1.length, ← r2.length]; exact hl, ?_⟩
  clear e1 hl h1
  induction r1 with
  | nil => intro p hp; simp at hp
  | @cons p q ps qs z zs ih =>
    intro p' hp'
    rcases List.mem_cons.mp hp' with e | hm
    · subst e
      obtain ⟨v1, v2⟩ := h p List.mem_cons_self
      obtain ⟨w, hw, rw'⟩ := r2.val.1 _ v1
      have e3 : w = p'.2 := by
        have z2 := z.2
        rcases v2 with ⟨i, e⟩ | ⟨x, e⟩
        · rw [e] at z2 rw'; rw [Rep.int_iff.mp z2, Rep.int_iff.mp rw']
        · rw [e] at z2 rw'; rw [Rep.str_iff.mp z2, Rep.str_iff.mp rw']
      refine ⟨by rw [← z.1, hw, e3], ?_⟩
      have z2 := z.2
      rcases v2 with ⟨i, e⟩ | ⟨x, e⟩
      · rw [e] at z2; rw [Rep.int_iff.mp z2]; rfl
      · rw [e] at z2; rw [Rep.str_iff.mp z2]; rfl
    · exact ih (fun p hp => h p (List.mem_cons_of_mem _ hp)) p' hm
def wEqq : R2m := fun x y m Q => ∃ k, EqB m x y k ∧ Q (.bl k) m
def wNeq : R2m := fun x y m Q => ∃ k, EqB m x y k ∧ Q (.bl (!k)) m
theorem mo_eqq_u (hu : X.A.units + 65 < cLine) : MOp X (compareOp .Eq) wEqq := mop_of (OpR.or op_eq (OpR.or (op_eqD (by omega)) (op_eq_dictA (by omega)))) fun x y v w H m Q Qm hx hy r q k => by
  obtain ⟨b, h, q⟩ := q
  have fin := k _ _ _ _ q r Step.refl Rep.bl
  rcases h with h | ⟨t, u, h1, h2, s1, s2, e⟩ | ⟨e, a, c, rfl, rfl, h⟩
  · obtain ⟨z1, z2⟩ := scD_of hx hy h
    exact .inl ⟨z1, by rw [z2]; exact fin⟩
  · exact .inr (.inl ⟨t, u, h1.dp r _ _ _ hx, h2.dp r _ _ _ hy, s1, s2, by rw [← e]; exact fin⟩)
  · subst e
    obtain ⟨ks, ls, z1, z2, z3, z4⟩ := kvs_same r h
    exact .inr (.inr ⟨_, _, ks, ls, Rep.ref_iff.mp hx, Rep.ref_iff.mp hy, z1, z2, z3, z4, fin⟩)
theorem mo_eqq {k : Nat} (hr : Room k X.A) : MOp X (compareOp .Eq) wEqq := mo_eqq_u (hu65 hr)
theorem mo_neq_u (hu : X.A.units + 65 < cLine) : MOp X (compareOp .NotEq) wNeq := mop_of (OpR.or op_ne (OpR.or (op_neD (by omega)) (op_ne_dictA (by omega)))) fun x y v w H m Q Qm hx hy r q k => by
  obtain ⟨b, h, q⟩ := q
  have fin := k _ _ _ _ q r Step.refl Rep.bl
  rcases h with h | ⟨t, u, h1, h2, s1, s2, e⟩ | ⟨e, a, c, rfl, rfl, h⟩
  · obtain ⟨z1, z2⟩ := scD_of hx hy h
    exact .inl ⟨z1, by rw [z2]; exact fin⟩
  · exact .inr (.inl ⟨t, u, h1.dp r _ _ _ hx, h2.dp r _ _ _ hy, s1, s2, by rw [← e]; exact fin⟩)
  · subst e
    obtain ⟨ks, ls, z1, z2, z3, z4⟩ := kvs_same r h
    exact .inr (.inr ⟨_, _, ks, ls, Rep.ref_iff.mp hx, Rep.ref_iff.mp hy, z1, z2, z3, z4, fin⟩)
theorem mo_neq {k : Nat} (hr : Room k X.A) : MOp X (compareOp .NotEq) wNeq := mo_neq_u (hu65 hr)
def wMax2 : RLm := fun ds m Q => match ds with
  | [.int i, .int j] => Q (.int (if j > i then j else i)) m
  | _ => False
def wMin2 : RLm := fun ds m Q => match ds with
  | [.int i, .int j] => Q (.int (if j < i then j else i)) m
  | _ => False
def wAbs : RLm := fun ds m Q => match ds with
  | [.int i] => Q (.int (if i < 0 then -i else i)) m
  | _ => False
def wInt1 : RLm := fun ds m Q => match ds with
  | [.int i] => Q (.int i) m
  | [.bl b] => Q (.int (if b then 1 else 0)) m
  | _ => False
theorem mc_int1 : MCall X (.type "int") wInt1 := mcall_of call_int1 fun ds vs H m Q Qm hx r q k => by
  unfold wInt1 at q; split at q
  · obtain ⟨v, e, x⟩ := reps1 hx
    rw [Rep.int_iff.mp x] at e
    exact .inl ⟨_, e, k _ _ _ _ q r Step.refl Rep.int⟩
  · obtain ⟨v, e, x⟩ := reps1 hx
    rw [Rep.bl_iff.mp x] at e
    exact .inr ⟨_, e, k _ _ _ _ q r Step.refl Rep.int⟩
  · exact q.elim
def wLen1 : RLm := fun ds m Q => match ds with
  | [.str z] => z.length ≤ sizeLine ∧ Q (.int z.length) m
  | [.tup ds] => Q (.int ds.length) m
  | [.ref a] => (∃ ds, rdM m a = some (.lst ds) ∧ Q (.int ds.length) m) ∨ ∃ kvs, m a = some (.dK kvs) ∧ Q (.int kvs.length) m
  | _ => False
theorem mc_len1 : MCall X (.builtin "len") wLen1 := mcall_of (CallR.or call_len call_lenD) fun ds vs H m Q Qm hx r q k => by
  unfold wLen1 at q; split at q
  · obtain ⟨v, e, x⟩ := reps1 hx
    rw [Rep.str_iff.mp x] at e
    exact .inl ⟨_, _, e, ⟨q.1, rfl⟩, k _ _ _ _ q.2 r Step.refl Rep.int⟩
  · obtain ⟨v, e, x⟩ := reps1 hx
    obtain ⟨a, xs, e1, s, rr⟩ := Rep.tup_iff.mp x
    exact .inl ⟨.ref a, _, by rw [e, e1], Or.inr ⟨xs, s.sq, rr.length⟩, k _ _ _ _ q r Step.refl Rep.int⟩
  · obtain ⟨v, e, x⟩ := reps1 hx
    rw [Rep.ref_iff.mp x] at e
    rcases q with ⟨ds, e1, q⟩ | ⟨kvs, e1, q⟩
    · obtain ⟨xs, s, rr⟩ := rd_lst r e1
      exact .inl ⟨.ref _, _, e, Or.inl ⟨xs, s, rr.length⟩, k _ _ _ _ q r Step.refl Rep.int⟩
    · obtain ⟨u, h1, xs, rfl, rr⟩ := r _ _ e1
      exact .inr ⟨_, xs, e, h1, by rw [← rr.length]; exact k _ _ _ _ q r Step.refl Rep.int⟩
  · exact q.elim
def wList1 : RLm := fun ds m Q => match ds with
  | [.tup ds] => newO (.lst ds) m Q
  | [.ref a] => (∃ ds, rdM m a = some (.lst ds) ∧ newO (.lst ds) m Q) ∨ ∃ kvs, m a = some (.dK kvs) ∧ newO (.lst (kvs.map fun p => kD p.1)) m Q
  | _ => False
def wTuple1 : RLm := fun ds m Q => match ds with
  | [.tup ds] => Q (.tup ds) m
  | [.ref a] => ∃ ds, rdM m a = some (.lst ds) ∧ Q (.tup ds) m
  | _ => False
theorem mc_tuple1 : MCall X (.type "tuple") wTuple1 := mcall_of call_tuple_of fun ds vs H m Q Qm hx r q k => by
  unfold wTuple1 at q; split at q
  · obtain ⟨v, e, x⟩ := reps1 hx
    obtain ⟨a, xs, e1, s, rr⟩ := Rep.tup_iff.mp x
    exact ⟨_, _, by rw [e, e1], .inr ⟨s.sq, k _ _ _ _ q r Step.refl (by rw [← e1]; exact x)⟩⟩
  · obtain ⟨v, e, x⟩ := reps1 hx
    rw [Rep.ref_iff.mp x] at e
    obtain ⟨ds, e1, q⟩ := q
    obtain ⟨xs, s, rr⟩ := rd_lst r e1
    exact ⟨_, _, e, .inl ⟨s, fun l hl => k _ _ _ _ q (r.hid hl) (Step.hid r hl) (Rep.tup_iff.mpr ⟨l, _, rfl, TupAt.of upd_same, rr.stay ((Step.hid (u := .tup xs) r hl).tups r)⟩)⟩⟩
  · exact q.elim
theorem reps_bls {K : PySem.W.Frag} {H : Hp} : ∀ {bs : List Bool} {vs : List V}, Reps K H (bs.map .bl) vs → vs = bs.map .bl
  | [], _, h => by rw [Reps.nil_iff.mp h]; rfl
  | k :: ks, _, h => by
    obtain ⟨v, r, e, x, y⟩ := Reps.cons_iff.mp h
    rw [e, Rep.bl_iff.mp x, reps_bls y]; rfl
theorem reps_intsV {K : PySem.W.Frag} {H : Hp} : ∀ {bs : List Int} {vs : List V}, Reps K H (bs.map .int) vs → vs = bs.map .int
  | [], _, h => by rw [Reps.nil_iff.mp h]; rfl
  | k :: ks, _, h => by
    obtain ⟨v, r, e, x, y⟩ := Reps.cons_iff.mp h
    rw [e, Rep.int_iff.mp x, reps_intsV y]; rfl
def wAll1 : RLm := fun ds m Q => match ds with
  | [.ref a] => ∃ bs : List Bool, rdM m a = some (.lst (bs.map .bl)) ∧ Q (.bl (bs.all id)) m
  | _ => False
theorem mc_all1 (hc : X.calm = true := by rfl) : MCall X (.builtin "all") wAll1 := mcall_of (cr_all hc) fun ds vs H m Q Qm hx r q k => by
  unfold wAll1 at q; split at q
  · obtain ⟨v, e, x⟩ := reps1 hx
    rw [Rep.ref_iff.mp x] at e
    obtain ⟨bs, e1, q⟩ := q
    obtain ⟨xs, s, rr⟩ := rd_lst r e1
    rw [reps_bls rr] at s
    exact ⟨_, bs, e, s, k _ _ _ _ q r Step.refl Rep.bl⟩
  · exact q.elim
def tyD (m : Mem) : D → Option String
  | .non => some "NoneType"
  | .bl _ => some "bool"
  | .int _ => some "int"
  | .str _ => some "str"
  | .tup _ => some "tuple"
  | .ref a => match m a with
    | some (.lst _) => some "list"
    | some (.dK _) => some "dict"
    | some (.dT _) => some "dict"
    | some (.frz (.lst _)) => some "list"
    | _ => none
  | _ => none
def isiB (t T : String) : Bool := t == T || (t == "bool" && T == "int")
def tys : List String := ["NoneType", "bool", "int", "str", "tuple", "list", "dict"]
theorem kit_tys : (tys.all fun t => tys.all fun T => kitB t T == some (isiB t T)) = true := by decide +kernel
theorem kit_of_tys {t T : String} (h : t ∈ tys) (h' : T ∈ tys) : kitB t T = some (isiB t T) := by
  have := List.all_eq_true.mp (List.all_eq_true.mp kit_tys t h) T h'
  exact eq_of_beq this
theorem tyX_of {K : PySem.W.Frag} {H : Hp} {m : Mem} {d : D} {v : V} {t : String} (r : RM K H m) (x : Rep K H d v) (h : tyD m d = some t) : TyX K H v (.type t) ∧ t ∈ tys := by
  unfold tyD at h
  split at h
  · cases h; rw [Rep.non_iff.mp x]; exact ⟨.base .non, by decide⟩
  · cases h; rw [Rep.bl_iff.mp x]; exact ⟨.base (.bl _), by decide⟩
  · cases h; rw [Rep.int_iff.mp x]; exact ⟨.base (.int _), by decide⟩
  · cases h; rw [Rep.str_iff.mp x]; exact ⟨.base (.str _), by decide⟩
  · cases h
    obtain ⟨a, xs, rfl, s, rr⟩ := Rep.tup_iff.mp x
    refine ⟨?_, by decide⟩
    rcases s.sq with (s | ⟨ob, s⟩) | ⟨o, its, n, s, hc, _⟩
    · exact .base (.tup s)
    · exact .fTuple s
    · exact .kTuple s hc
  · rw [Rep.ref_iff.mp x]
    split at h
    · rename_i e; cases h; obtain ⟨u, h1, xs, rfl, _⟩ := r _ _ e; exact ⟨.base (.lst h1), by decide⟩
    · rename_i e; cases h; obtain ⟨u, h1, xs, rfl, _⟩ := r _ _ e; exact ⟨.base (.dK h1), by decide⟩
    · rename_i e; cases h; obtain ⟨u, h1, xs, rfl, _⟩ := r _ _ e; exact ⟨.base (.dT h1), by decide⟩
    · rename_i e; cases h; obtain ⟨u, h1, ob, w, rfl, xs, rfl, _⟩ := r _ _ e; exact ⟨.base (.frz h1), by decide⟩
    · cases h
  · cases h
def wIsi : RLm := fun ds m Q => match ds with
  | [x, .ty T] => ∃ t, tyD m x = some t ∧ T ∈ tys ∧ Q (.bl (isiB t T)) m
  | _ => False
theorem mc_isinstance2 : MCall X (.builtin "isinstance") wIsi := mcall_of call_isi fun ds vs H m Q Qm hx r q k => by
  unfold wIsi at q; split at q
  · obtain ⟨v, w, e, x, y⟩ := reps2 hx
    rw [Rep.ty_iff.mp y] at e
    obtain ⟨t, h1, h2, q⟩ := q
    obtain ⟨z1, z2⟩ := tyX_of r x h1
    exact ⟨v, _, _, _, _, e, ClsV.ty _, z1, kit_ty (kit_of_tys z2 h2), k _ _ _ _ q r Step.refl Rep.bl⟩
  · exact q.elim
theorem mx_ty {x : Str} {T : String} (hm : X.mg x = none) (hg : Gl X x := by rfl) (hv : bootBuiltins x = some (.type T) := by decide +kernel) (hn : x ≠ "__name__" := by decide) (hd : (x == ("__debug__" : Str)) = false := by decide) : MX X B (.Name x pos) (wC (.ty T)) :=
  mxC (v := .ty T) (pe_bltn hg hm hv rfl hn hd) fun _ => Rep.ty
def wApp (pa pb : TEm) : TEm := fun ρ m Q => pa ρ m fun x m1 => refAt x fun a => (∃ ds, rdM m1 a = some (.lst ds)) ∧ pb ρ m1 fun y m2 => ∃ ds, m2 a = some (.lst ds) ∧ ds.length < sizeLine ∧ Q .non (mput m2 a (.lst (ds ++ [y])))
theorem list_ty {K : PySem.W.Frag} {H : Hp} {a : Addr} {m : Mem} (r : RM K H m) (h : ∃ ds, rdM m a = some (.lst ds)) : tyV K "list" (.ref a) H := by
  obtain ⟨ds, e⟩ := h
  obtain ⟨xs, s, _⟩ := rd_lst r e
  exact .inl ⟨rfl, xs, s⟩
theorem mx_append (ho : MX X B o pa) (he : MX X B e pb) (hbase : attributeBase o "append" X.env (eval o X.env) = eval o X.env := by rfl)
    (hfew : ((backTo cpos (starEach (e :: []) X.env)).all (fun x => !x.1) && (backToKw cpos (keywordEach [] X.env)).all (fun x => x.1.isSome)
      && decide ((e :: ([] : List Expr)).length + ([] : List Keyword).length + (if ([] : List Keyword).isEmpty then 0 else 1) < 30)) = true := by rfl)
    (hline : (apos.endLine == cpos.line) = true := by rfl) (hs : starEach (e :: []) X.env = (false, eval e X.env) :: starEach [] X.env := by rfl) (hplain : (backTo cpos (starEach [] X.env)).any (·.1) = false := by rfl) :
    MX X B (.Call (.Attribute o "append" apos) [e] [] cpos) (wApp pa pb) :=
  peImp (pe_bm PySem.F.plainAttrs_list PySem.F.slot_list_append PySem.F.type_list_append mt_append ho (pa_cons he pa_nil hs) hbase hfew hline hs hplain) fun σ H Q ⟨ρ, m, Qm, A, q, k⟩ => by
    refine ⟨ρ, m, _, A, q, fun x m1 v H1 q1 r1 t1 x1 => ?_⟩
    unfold refAt at q1
    split at q1
    · obtain ⟨tl, q1⟩ := q1
      rw [Rep.ref_iff.mp x1]
      refine ⟨list_ty r1 tl, ρ, m1, _, A.step r1 t1, q1, fun y m2 w H2 q2 r2 t2 x2 => ?_⟩
      obtain ⟨ds, e1, z, q2⟩ := q2
      obtain ⟨u, h1, xs, rfl, rr⟩ := r2 _ _ e1
      refine ⟨_, xs, w, rfl, rfl, h1, by rw [← rr.length]; exact z, ?_⟩
      exact k _ _ _ _ q2 (r2.put e1 trivial ⟨_, rfl, rr.append (Reps.cons x2 Reps.nil)⟩) (t1.trans (t2.trans (Step.put r2 e1 trivial))) Rep.non
    · exact q1.elim
def wExt (pa pb : TEm) : TEm := fun ρ m Q => pa ρ m fun x m1 => refAt x fun a => (∃ ds, rdM m1 a = some (.lst ds)) ∧ pb ρ m1 fun y m2 => ∃ ds b es, y = .ref b ∧ m2 a = some (.lst ds) ∧ m2 b = some (.lst es) ∧ ds.length + es.length ≤ sizeLine ∧ Q .non (mput m2 a (.lst (ds ++ es)))
end
end Mm
namespace Mm
open PySem L2
open PyProof.Rows (envOfC)
theorem ofString_inj {a b : String} : (Str.ofString a = Str.ofString b) = (a = b) := by
  apply propext
  refine ⟨fun h => ?_, fun h => by rw [h]⟩
  have h1 : (cpsOfBytes 0 0 a.toByteArray.data.toList).toArray = (cpsOfBytes 0 0 b.toByteArray.data.toList).toArray := Str.mk.inj h
  have h2 : a.toList.map Char.toNat = b.toList.map Char.toNat := by
    have := congrArg Array.toList h1
    simp only [cpsOfBytes_string] at this
    exact this
  have inj : ∀ c d : Char, c.toNat = d.toNat → c = d := fun c d e => Char.ext (UInt32.toNat_inj.mp e)
  have h3 : ∀ l k : List Char, l.map Char.toNat = k.map Char.toNat → l = k := by
    intro l
    induction l with
    | nil => intro k h; cases k with
      | nil => rfl
      | cons _ _ => simp at h
    | cons c l ih => intro k h; cases k with
      | nil => simp at h
      | cons d k =>
        simp only [List.map_cons, List.cons.injEq] at h
        rw [inj c d h.1, ih k h.2]
  exact String.toList_inj.mp (h3 _ _ h2)
section
variable {E : EndsM} {ρ : StM} {m : Mem} {Q : KM} {QB : Bool → Mem → Prop} {QL : List D → Mem → Prop} {d x y : D} {t u : TSm} {pa pb pc p q : TEm} {ta tb : TTm} {la : TAm} {r r' : R2m}
theorem i_seq (h : t { E with nx := u E } ρ m) : wSeq t u E ρ m := h
theorem i_next (h : E.nx ρ m) : wNext E ρ m := h
theorem i_if (h : ta ρ m fun b m1 => if b = true then t E ρ m1 else u E ρ m1) : wIfS ta t u E ρ m := h
theorem i_ret (h : p ρ m E.rt) : wRet p E ρ m := h
theorem i_retN (h : E.rt .non m) : wRetN E ρ m := h
theorem i_drop (h : p ρ m fun _ m1 => E.nx ρ m1) : wDrop p E ρ m := h
theorem i_set {i : Nat} (h : p ρ m fun d m1 => E.nx (ρ.set i (some d)) m1) : wSet i p E ρ m := h
theorem i_asg {g : TGm} (h : p ρ m fun d m1 => g d ρ m1 E.nx) : wAsg p g E ρ m := h
theorem i_par {i j : Nat} (h : la ρ m fun ds m1 => twoAt ds fun x y => E.nx ((ρ.set i (some x)).set j (some y)) m1) : wPar i j la E ρ m := h
theorem i_gN {i : Nat} {n : StM → Mem → Prop} (h : n (ρ.set i (some d)) m) : gN i d ρ m n := h
theorem i_gTup {k : Nat} {h : TGsm} {n : StM → Mem → Prop} {ds : List D} (e : ds.length = k) (q : h ds ρ m n) : gTupM k h (.tup ds) ρ m n := ⟨e, q⟩
theorem i_gC {g : TGm} {h : TGsm} {n : StM → Mem → Prop} {ds : List D} (q : g d ρ m fun ρ1 m1 => h ds ρ1 m1 n) : gConss g h (d :: ds) ρ m n := q
theorem i_gE {n : StM → Mem → Prop} (q : n ρ m) : gNils [] ρ m n := ⟨rfl, q⟩
theorem i_var {i : Nat} (e : ρ[i]? = some (some d)) (h : Q d m) : wVar i ρ m Q := ⟨d, e, h⟩
theorem i_neg {i : Int} (h : Q (.int (-i)) m) : wNeg (.int i) m Q := h
theorem i_bl {b : Bool} {R : Bool → Prop} (h : R b) : ∃ k, D.bl b = .bl k ∧ R k := ⟨b, rfl, h⟩
theorem i_I0 {g : Int → Int → D} {i j : Int} (h : Q (g i j) m) : wI0 g (.int i) (.int j) m Q := h
theorem i_plusI {i j : Int} (h : Q (.int (i + j)) m) : wPlus (.int i) (.int j) m Q := h
theorem i_plusS {i j : Str} (z : i.length + j.length ≤ sizeLine) (h : Q (.str (i ++ j)) m) : wPlus (.str i) (.str j) m Q := ⟨z, h⟩
theorem i_plusT {i j : List D} (z : i.length + j.length ≤ sizeLine) (h : Q (.tup (i ++ j)) m) : wPlus (.tup i) (.tup j) m Q := ⟨z, h⟩
theorem i_timesS {i : Str} {j : Int} (c : MulOk i j) (h : Q (.str (Txt.mul i j)) m) : wTimes (.str i) (.int j) m Q := ⟨c, h⟩
theorem i_eqqS {a b : Str} (h : Q (.bl (decide (a = b))) m) : wEqq (.str a) (.str b) m Q := ⟨_, .inl rfl, h⟩
theorem i_eqqI {a b : Int} (h : Q (.bl (decide (a = b))) m) : wEqq (.int a) (.int b) m Q := ⟨_, .inl rfl, h⟩
theorem i_eqqB {a b : Bool} (h : Q (.bl (decide (a = b))) m) : wEqq (.bl a) (.bl b) m Q := ⟨_, .inl rfl, h⟩
theorem i_neqS {a b : Str} (h : Q (.bl (!decide (a = b))) m) : wNeq (.str a) (.str b) m Q := ⟨_, .inl rfl, h⟩
theorem i_neqI {a b : Int} (h : Q (.bl (!decide (a = b))) m) : wNeq (.int a) (.int b) m Q := ⟨_, .inl rfl, h⟩
theorem i_neqB {a b : Bool} (h : Q (.bl (!decide (a = b))) m) : wNeq (.bl a) (.bl b) m Q := ⟨_, .inl rfl, h⟩
theorem i_subT {ds : List D} {i : Int} (e : atI ds i = some d) (h : Q d m) : wSub (.tup ds) (.int i) m Q := ⟨d, e, h⟩
theorem i_subL {a : Addr} {ds : List D} {i : Int} (e0 : rdM m a = some (.lst ds)) (e : atI ds i = some d) (h : Q d m) : wSub (.ref a) (.int i) m Q := ⟨_, e0, i, d, rfl, e, h⟩
theorem i_subK {a : Addr} {kvs : List (Key × D)} {z : Str} (e0 : rdM m a = some (.dK kvs)) (e : valD kvs (.inr z) = some d) (h : Q d m) : wSub (.ref a) (.str z) m Q := ⟨_, e0, d, ⟨.inr z, rfl, e.symm⟩, h⟩
theorem i_subS {z : Str} {i : Int} {c : Nat} (l : z.length ≤ sizeLine) (e : atI z.cps.toList i = some c) (h : Q (.str ⟨#[c]⟩) m) : wSub (.str z) (.int i) m Q := ⟨l, c, e, h⟩
theorem i_isN (h : Q (.bl (isN x)) m) : wIsN x .non m Q := h
theorem i_notN (h : Q (.bl (!isN x)) m) : wNotN x .non m Q := h
theorem i_max2 {i j : Int} (h : Q (.int (if j > i then j else i)) m) : wMax2 [.int i, .int j] m Q := h
theorem i_min2 {i j : Int} (h : Q (.int (if j < i then j else i)) m) : wMin2 [.int i, .int j] m Q := h
theorem i_abs {i : Int} (h : Q (.int (if i < 0 then -i else i)) m) : wAbs [.int i] m Q := h
theorem i_intI {i : Int} (h : Q (.int i) m) : wInt1 [.int i] m Q := h
theorem i_intB {b : Bool} (h : Q (.int (if b then 1 else 0)) m) : wInt1 [.bl b] m Q := h
theorem i_lenS {z : Str} (l : z.length ≤ sizeLine) (h : Q (.int z.length) m) : wLen1 [.str z] m Q := ⟨l, h⟩
theorem i_lenT {ds : List D} (h : Q (.int ds.length) m) : wLen1 [.tup ds] m Q := h
theorem i_lenL {a : Addr} {ds : List D} (e : rdM m a = some (.lst ds)) (h : Q (.int ds.length) m) : wLen1 [.ref a] m Q := .inl ⟨ds, e, h⟩
theorem i_isi {t T : String} (e : tyD m x = some t) (ht : T ∈ tys) (h : Q (.bl (isiB t T)) m) : wIsi [x, .ty T] m Q := ⟨t, e, ht, h⟩
theorem i_listT {ds : List D} (h : newO (.lst ds) m Q) : wList1 [.tup ds] m Q := h
theorem i_listL {a : Addr} {ds : List D} (e : rdM m a = some (.lst ds)) (h : newO (.lst ds) m Q) : wList1 [.ref a] m Q := .inl ⟨ds, e, h⟩
theorem i_tupT {ds : List D} (h : Q (.tup ds) m) : wTuple1 [.tup ds] m Q := h
theorem i_tupL {a : Addr} {ds : List D} (e : rdM m a = some (.lst ds)) (h : Q (.tup ds) m) : wTuple1 [.ref a] m Q := ⟨ds, e, h⟩
theorem i_put (h : pc ρ m fun z m1 => pa ρ m1 fun x m2 => pb ρ m2 fun y m3 => refAt x fun a => ∃ o o', m3 a = some o ∧ putO o y z o' ∧ E.nx ρ (mput m3 a o')) : wPut pa pb pc E ρ m := h
theorem i_ref {a : Addr} {k : Addr → Prop} (h : k a) : refAt (.ref a) k := h
theorem i_tupAt {ds : List D} {k : List D → Prop} (h : k ds) : tupAt (.tup ds) k := h
theorem i_two {x y : D} {k : D → D → Prop} (h : k x y) : twoAt [x, y] k := h
theorem i_int1 {i : Int} {k : Int → Prop} (h : k i) : int1At [.int i] k := h
theorem i_int2 {i j : Int} {k : Int → Int → Prop} (h : k i j) : int2At [.int i, .int j] k := h
theorem i_putK {a : Addr} {kvs : List (Key × D)} {k : Str} {z : D} {R : Mem → Prop} (h1 : m a = some (.dK kvs)) (n : kvs.length < sizeLine) (h : R (mput m a (.dK (putD kvs (.inr k) z)))) :
    ∃ o o', m a = some o ∧ putO o (.str k) z o' ∧ R (mput m a o') := ⟨_, _, h1, ⟨.inr k, rfl, n, rfl⟩, h⟩
theorem i_rt {R : KM} (h : R d m) : RtM R d m := RtM.mk h
theorem i_iteT {b : Bool} {P R : Prop} (e : b = true) (h : P) : if b = true then P else R := by rw [e]; exact h
theorem i_iteF {b : Bool} {P R : Prop} (e : b = false) (h : R) : if b = true then P else R := by rw [e]; exact h
theorem i_ite {b : Bool} {P R : Prop} (h1 : b = true → P) (h2 : b = false → R) : if b = true then P else R := by
  cases b with
  | true => exact h1 rfl
  | false => exact h2 rfl
theorem sl {n : Nat} (h : n ≤ 1000) : n ≤ sizeLine := Nat.le_of_lt (small1000 h)
end
end Mm
namespace Mm
open PySem L2
open PyProof.Rows (envOfC)
def KL (K : PySem.W.Frag) (a : Addr) (ns : List Int) : Prop := ∃ (o : Obj) (its : Array Value) (n : Nat), K.lookup a = some o ∧ o.cls = .type "list" ∧ o.dict = none ∧ o.data = .seq its n ∧ its.size ≤ sizeLine ∧ Vals (ns.map V.int) its.toList
def LsK (K : PySem.W.Frag) (m : Mem) (a : Addr) (ns : List Int) : Prop := rdM m a = some (.lst (ns.map .int)) ∨ KL K a ns
theorem LsK.sq {K : PySem.W.Frag} {H : Hp} {m : Mem} {a : Addr} {ns : List Int} (r : RM K H m) (h : LsK K m a ns) : SqL K H a (ns.map V.int) := by
  rcases h with h | h
  · obtain ⟨xs, s, rr⟩ := rd_lst r h
    rw [reps_intsV rr] at s; exact s
  · exact .inr h
theorem LsK.put {K : PySem.W.Frag} {m : Mem} {a b : Addr} {o : O} {ns : List Int} (h : LsK K m a ns) (ne : a ≠ b) : LsK K (mput m b o) a ns := by
  rcases h with h | h
  · refine .inl ?_
    unfold rdM at h ⊢
    rw [mput_ne ne]; exact h
  · exact .inr h
section
variable {X : Cx} {B : Bs} {e tg iter k v : Expr} {ks : List (Option Expr)} {vs : List Expr} {pos : Pos} {p pa pb : TEm}
def wSubS (K : PySem.W.Frag) : R2m := fun x y m Q => match x, y with
  | .ref a, .int i => ∃ ns n, LsK K m a ns ∧ atI ns i = some n ∧ Q (.int n) m
  | _, _ => False
theorem atI_map {α β : Type} {f : α → β} {xs : List α} {i : Int} {x : α} (h : atI xs i = some x) : atI (xs.map f) i = some (f x) := by
  unfold atI at h ⊢
  rw [List.length_map]
  cases q : ixN xs.length i with
  | none => rw [q] at h; cases h
  | some j =>
    rw [q] at h
    show (xs.map f)[j]? = _
    rw [List.getElem?_map]
    have : xs[j]? = some x := h
    rw [this]; rfl
theorem mi_subS : MIx X (wSubS X.K) := mix_of ix_list fun x y v w H m Q Qm hx hy r q k => by
  unfold wSubS at q
  split at q
  · obtain ⟨ns, n, h, e, q⟩ := q
    exact ⟨_, _, _, .int n, Rep.ref_iff.mp hx, Rep.int_iff.mp hy, h.sq r, atI_map e, k _ _ _ _ q r Step.refl Rep.int⟩
  · exact q.elim
def wLenS (K : PySem.W.Frag) : RLm := fun ds m Q => match ds with
  | [.ref a] => ∃ ns, LsK K m a ns ∧ Q (.int ns.length) m
  | _ => False
theorem mc_lenS : MCall X (.builtin "len") (wLenS X.K) := mcall_of call_len fun ds vs H m Q Qm hx r q k => by
  unfold wLenS at q; split at q
  · obtain ⟨v, e, x⟩ := reps1 hx
    rw [Rep.ref_iff.mp x] at e
    obtain ⟨ns, h, q⟩ := q
    exact ⟨.ref _, _, e, Or.inl ⟨_, h.sq r, rfl⟩, by rw [List.length_map]; exact k _ _ _ _ q r Step.refl Rep.int⟩
  · exact q.elim
def iLS (K : PySem.W.Frag) (p : TEm) : TIm := fun ρ m R => p ρ m fun d m1 => refAt d fun a => ∃ ns, LsK K m1 a ns ∧ R (ns.map .int) (fun m' => LsK K m' a ns) m1
theorem mi_listS (h : MX X B iter p) : MI X B tg iter (iLS X.K p) := piImp (pi_list h) fun σ H R ⟨ρ, m, Rm, A, q, k⟩ => by
  refine ⟨ρ, m, _, A, q, fun d m1 v H1 q1 r1 t1 x1 => ?_⟩
  unfold refAt at q1
  split at q1
  · obtain ⟨ns, e, q1⟩ := q1
    refine ⟨_, Rep.ref_iff.mp x1, ⟨_, e.sq r1⟩, k _ _ _ _ _ q1 r1 t1 (good_list (fun m' H' s r c => ⟨_, c.sq r, Reps.ints ns⟩) fun _ _ _ _ _ _ => trivial)⟩
  · exact q1.elim
def wPairs : List (TEm × TEm) → StM → Mem → (List (D × D) → Mem → Prop) → Prop
  | [], _, m, Q => Q [] m
  | (tk, tv) :: r, ρ, m, Q => tk ρ m fun x m1 => tv ρ m1 fun y m2 => wPairs r ρ m2 fun ps m3 => Q ((x, y) :: ps) m3
def MPs (X : Cx) (B : Bs) (pos : Pos) (keys : List (Option Expr)) (values : List Expr) (ps : List (TEm × TEm)) : Prop := PPs X pos keys values (ps.map fun p => (uE X.K B p.1, uE X.K B p.2))
theorem mps_nil : MPs X B pos [] [] [] := pps_nil
theorem mps_cons {ps : List (TEm × TEm)} (hk : MX X B k pa) (hv : MX X B v pb) (hr : MPs X B pos ks vs ps) : MPs X B pos (some k :: ks) (v :: vs) ((pa, pb) :: ps) := pps_cons hk hv hr
def mergeD (kvs more : List (Key × D)) : List (Key × D) := more.foldl (fun acc kv => putD acc kv.1 kv.2) kvs
theorem KVs.merge {K : PySem.W.Frag} {H : Hp} : ∀ {more : List (Key × D)} {rs : List (Key × V)} {kvs : List (Key × D)} {ws : List (Key × V)}, KVs K H more rs → KVs K H kvs ws → KVs K H (mergeD kvs more) (mergeK ws rs) := by
  intro more rs kvs ws r
  unfold KVs at r
  induction r generalizing kvs ws with
  | nil => intro q; exact q
  | @cons p q ps qs h t ih =>
    intro r0
    have e : KVs K H (putD kvs p.1 p.2) (putK ws q.1 q.2) := by
      have := KVs.put (k := p.1) h.2 r0
      rw [← h.1]; exact this
    exact ih e
def wDisp (ps : List (TEm × TEm)) : TEm := fun ρ m Q => wPairs ps ρ m fun prs m' => ∃ kvs : List (Key × D), prs = kvs.map (fun kv => (kD kv.1, kv.2)) ∧ kvs.length ≤ 15 ∧ newO (.dK (mergeD [] kvs)) m' Q
abbrev PairV (K : PySem.W.Frag) (H : Hp) : List (D × D) → List (V × V) → Prop := Paired fun p q => Rep K H p.1 q.1 ∧ Rep K H p.2 q.2
theorem pairs_go {K : PySem.W.Frag} : ∀ (ps : List (TEm × TEm)) {σ : St} {H : Hp} {ρ : StM} {m : Mem} {Qm : List (D × D) → Mem → Prop} {Q : List (V × V) → Hp → Prop}, At K B σ H ρ m → wPairs ps ρ m Qm →
    (∀ prs m' vs H', Qm prs m' → RM K H' m' → Step m H m' H' → PairV K H' prs vs → Q vs H') → tPairs (ps.map fun p => (uE K B p.1, uE K B p.2)) σ H Q
  | [], σ, H, ρ, m, Qm, Q, A, q, k => k _ _ _ _ q A.r Step.refl .nil
  | (tk, tv) :: r, σ, H, ρ, m, Qm, Q, A, q, k => by
    refine ⟨ρ, m, _, A, q, fun x m1 v H1 q1 r1 t1 x1 => ?_⟩
    refine ⟨ρ, m1, _, A.step r1 t1, q1, fun y m2 w H2 q2 r2 t2 x2 => ?_⟩
    refine pairs_go r ((A.step r1 t1).step r2 t2) q2 fun prs m3 ws H3 q3 r3 t3 x3 => ?_
    exact k _ _ _ _ q3 r3 (t1.trans (t2.trans t3)) (.cons ⟨(x1.stay (t2.tups r1)).stay (t3.tups r2), x2.stay (t3.tups r2)⟩ x3)
theorem pairV_kvs {K : PySem.W.Frag} {H : Hp} : ∀ {kvs : List (Key × D)} {vs : List (V × V)}, PairV K H (kvs.map fun kv => (kD kv.1, kv.2)) vs → ∃ ws : List (Key × V), vs = ws.map (fun kv => (kV kv.1, kv.2)) ∧ KVs K H kvs ws
  | [], _, h => by rw [List.map_nil] at h; cases h; exact ⟨[], rfl, .nil⟩
  | p :: kvs, _, h => by
    rw [List.map_cons] at h
    cases h with
    | @cons a b as bs h t =>
      obtain ⟨ws, e, r⟩ := pairV_kvs t
      obtain ⟨b1, b2⟩ := b
      have e1 : b1 = kV p.1 := kD_rep h.1
      subst e1
      exact ⟨(p.1, b2) :: ws, by rw [e]; rfl, .cons ⟨rfl, h.2⟩ r⟩
theorem RM.told {K : PySem.W.Frag} {H : Hp} {m : Mem} (r : RM K H m) {p : Addr} {u u' : HO} {o : O} (hp : H p = some u) (nt : ∀ xs, u ≠ .tup xs) (nf : ∀ ob v, u ≠ .frz ob v) (mp : m p = none) (x : RepO K H o u') :
    RM K (upd H p u') (mput m p o) ∧ TupS K H (upd H p u') := by
  have ts : TupS K H (upd H p u') := by
    have ne : ∀ a o, H a = some o → (o ≠ u) → upd H p u' a = some o := fun a o h1 h2 => by
      rw [upd_ne]; exact h1
      rintro rfl; rw [hp] at h1; cases h1; exact h2 rfl
    intro a ys n hy
    rcases hy with hy | ⟨z, hy⟩
    · exact .inl (ne _ _ hy fun z => nt _ z.symm)
    · refine .inr ⟨z, ?_⟩
      rcases hy with (hy | ⟨ob, hy⟩) | hy
      · exact .inl (.inl (ne _ _ hy fun z => nt _ z.symm))
      · exact .inl (.inr ⟨ob, ne _ _ hy fun z => nf _ _ z.symm⟩)
      · exact .inr hy
  refine ⟨fun a o' e => ?_, ts⟩
  by_cases ne : a = p
  · subst ne
    rw [mput_same] at e; cases e
    exact ⟨u', upd_same, x.stay ts⟩
  · rw [mput_ne ne] at e
    obtain ⟨v, h1, h2⟩ := r a o' e
    exact ⟨v, by rw [upd_ne ne]; exact h1, h2.stay ts⟩
theorem mx_disp {keys : List (Option Expr)} {values : List Expr} {ps : List (TEm × TEm)} (h : MPs X B pos keys values ps) (hall : keys.all (·.isSome) = true := by rfl) (hl : keys.length = values.length := by rfl) (h0 : keys ≠ [] := by exact fun z => nomatch z)
    (h15 : keys.length ≤ 15 := by decide) : MX X B (.Dict keys values pos) (wDisp ps) := peImp (pe_disp h hall hl h0 h15) fun σ H Q ⟨ρ, m, Qm, A, q, k⟩ => by
  intro p hp
  have A1 : At X.K B σ (upd H p (.dK [])) ρ m := A.step (A.r.hid hp) (Step.hid A.r hp)
  refine pairs_go ps A1 q fun prs m' vs H2 ⟨kvs, e, z, q2⟩ r2 t2 x2 => ?_
  have mp : m p = none := A.r.out hp
  obtain ⟨e2, n2⟩ := t2 p _ upd_same (.inl mp)
  have mp2 : m' p = none := by
    rcases n2 with n2 | ⟨o, n2⟩
    · exact n2
    · obtain ⟨w, h1, ob, v, e6, _⟩ := r2 p _ n2
      rw [e2] at h1; cases h1; cases e6
  subst e
  obtain ⟨ws, e3, kv⟩ := pairV_kvs x2
  obtain ⟨r3, ts⟩ := r2.told (u' := .dK (mergeK [] ws)) (o := .dK (mergeD [] kvs)) e2 (fun _ z => by cases z) (fun _ _ z => by cases z) mp2 ⟨_, rfl, kv.merge .nil⟩
  refine ⟨e2, ws, e3, by rw [← kv.length]; exact z, k _ _ _ _ (q2 p mp2) r3 ?_ Rep.ref⟩
  intro a w h1 n1
  have ne : a ≠ p := by rintro rfl; rw [hp] at h1; cases h1
  obtain ⟨h2, n2⟩ := t2 a w (by rw [upd_ne ne]; exact h1) n1
  refine ⟨by rw [upd_ne ne]; exact h2, ?_⟩
  rcases n2 with n2 | ⟨o, n2⟩
  · exact .inl (by rw [mput_ne ne]; exact n2)
  · exact .inr ⟨o, by rw [mput_ne ne]; exact n2⟩
def cutL {α : Type} (xs : List α) (lo hi : Option Int) : List α := (xs.drop (HT.sIx xs.length 0 lo)).take (HT.sIx xs.length xs.length hi - HT.sIx xs.length 0 lo)
abbrev TOm := StM → Mem → (Option Int → Mem → Prop) → Prop
def uO (K : PySem.W.Frag) (B : Bs) (p : TOm) : TO := fun σ H Q => ∃ ρ m Qm, At K B σ H ρ m ∧ p ρ m Qm ∧ ∀ d m' H', Qm d m' → RM K H' m' → Step m H m' H' → Q d H'
def MO (X : Cx) (B : Bs) (e : Option Expr) (p : TOm) : Prop := PO X e (uO X.K B p)
theorem poImp {e : Option Expr} {t t' : TO} (h : PO X e t) (i : ∀ σ H Q, t' σ H Q → t σ H Q) : PO X e t' := ⟨fun pins s σ H Q I q => h.run pins s σ H Q I (i _ _ _ q)⟩
def wNoPart : TOm := fun _ m Q => Q none m
def intAt (d : D) (k : Int → Prop) : Prop := match d with
  | .int i => k i
  | _ => False
theorem i_intAt {i : Int} {k : Int → Prop} (h : k i) : intAt (.int i) k := h
def wPart (p : TEm) : TOm := fun ρ m Q => p ρ m fun d m1 => intAt d fun i => Q (some i) m1
theorem mo_none : MO X B none wNoPart := poImp po_none fun σ H Q ⟨ρ, m, Qm, A, q, k⟩ => k _ _ _ q A.r Step.refl
theorem mo_some (h : MX X B e p) : MO X B (some e) (wPart p) := poImp (po_some h) fun σ H Q ⟨ρ, m, Qm, A, q, k⟩ => by
  refine ⟨ρ, m, _, A, q, fun d m1 v H1 q1 r1 t1 x1 => ?_⟩
  unfold intAt at q1
  split at q1
  · exact ⟨_, Rep.int_iff.mp x1, k _ _ _ q1 r1 t1⟩
  · exact q1.elim
def wSlV (x : D) (lo hi : Option Int) (m3 : Mem) (Q : KM) : Prop := match x with
  | .tup ds => Q (.tup (cutL ds lo hi)) m3
  | .ref a => ∃ ds, rdM m3 a = some (.lst ds) ∧ newO (.lst (cutL ds lo hi)) m3 Q
  | .str z => z.length ≤ sizeLine ∧ Q (.str (cutS z lo hi)) m3
  | _ => False
theorem i_slT {ds : List D} {lo hi : Option Int} {m : Mem} {Q : KM} (q : Q (.tup (cutL ds lo hi)) m) : wSlV (.tup ds) lo hi m Q := q
theorem i_slL {a : Addr} {ds : List D} {lo hi : Option Int} {m : Mem} {Q : KM} (e : rdM m a = some (.lst ds)) (q : newO (.lst (cutL ds lo hi)) m Q) : wSlV (.ref a) lo hi m Q := ⟨ds, e, q⟩
theorem i_slS {z : Str} {lo hi : Option Int} {m : Mem} {Q : KM} (l : z.length ≤ sizeLine) (q : Q (.str (cutS z lo hi)) m) : wSlV (.str z) lo hi m Q := ⟨l, q⟩
def wSl (pe : TEm) (pl ph : TOm) : TEm := fun ρ m Q => pe ρ m fun x m1 => pl ρ m1 fun lo m2 => ph ρ m2 fun hi m3 => wSlV x lo hi m3 Q
theorem reps_cut {K : PySem.W.Frag} {H : Hp} {ds : List D} {vs : List V} (h : Reps K H ds vs) (lo hi : Option Int) : Reps K H (cutL ds lo hi) (cutV vs lo hi) := by
  unfold cutL cutV
  rw [h.length]
  exact (h.drop _).take _
theorem mx_slice {lo hi : Option Expr} {pl ph : TOm} {p2 : Pos} (he : MX X B e p) (hl : MO X B lo pl) (hu : MO X B hi ph) : MX X B (.Subscript e (.Slice lo hi none p2) pos) (wSl p pl ph) :=
  peImp (pe_slice ((SlR.or sl_tupA (SlR.or sl_list sl_str))) he hl hu) fun σ H Q ⟨ρ, m, Qm, A, q, k⟩ => by
  refine ⟨ρ, m, _, A, q, fun d m1 v H1 q1 r1 t1 x1 => ?_⟩
  refine ⟨ρ, m1, _, A.step r1 t1, q1, fun l m2 H2 q2 r2 t2 => ?_⟩
  refine ⟨ρ, m2, _, (A.step r1 t1).step r2 t2, q2, fun h m3 H3 q3 r3 t3 => ?_⟩
  have t := t1.trans (t2.trans t3)
  have x3 := (x1.stay (t2.tups r1)).stay (t3.tups r2)
  unfold wSlV at q3
  split at q3
  · rename_i ds
    obtain ⟨a, xs, e1, s, rr⟩ := Rep.tup_iff.mp x3
    refine .inl ⟨a, xs, e1, s.sq, fun z => ?_, fun _ p hp => ?_⟩
    · have e2 : cutL ds l h = ds := by
        unfold cutL
        rw [rr.length, z.1, z.2, List.drop_zero, Nat.sub_zero, ← rr.length]
        exact List.take_length
      rw [e2] at q3
      exact k _ _ _ _ q3 r3 t (by rw [← e1]; exact x3)
    · have th : Step m3 H3 m3 (upd H3 p (.tup (cutV xs l h))) := Step.hid r3 hp
      exact k _ _ _ _ q3 (r3.hid hp) (t.trans th) (Rep.tup_iff.mpr ⟨p, _, rfl, TupAt.of upd_same, (reps_cut rr l h).stay (th.tups r3)⟩)
  · obtain ⟨ds, e1, q3⟩ := q3
    obtain ⟨xs, s, rr⟩ := rd_lst r3 e1
    exact .inr (.inl ⟨_, xs, Rep.ref_iff.mp x3, s, new_go q3 r3 t ⟨_, rfl, reps_cut rr l h⟩ k⟩)
  · exact .inr (.inr ⟨_, Rep.str_iff.mp x3, q3.1, k _ _ _ _ q3.2 r3 t Rep.str⟩)
  · exact q3.elim
end
end Mm
namespace Mm
open PySem L2
open PyProof.Rows (envOfC)
def flD : D → Bool
  | .int _ => true
  | .str _ => true
  | .bl _ => true
  | .non => true
  | _ => false
def eqF : D → D → Bool
  | .int i, .int j => i == j
  | .str i, .str j => i == j
  | .bl i, .bl j => i == j
  | .non, .non => true
  | .bl i, .int j => (if i then 1 else 0) == j
  | .int j, .bl i => j == (if i then 1 else 0)
  | _, _ => false
def seqD (m : Mem) (y : D) (ds : List D) : Prop := y = .tup ds ∨ ∃ a, y = .ref a ∧ rdM m a = some (.lst ds)
def InB (m : Mem) (x y : D) (k : Bool) : Prop :=
  (∃ ds, seqD m y ds ∧ flD x = true ∧ ds.all flD = true ∧ k = ds.any fun z => eqF z x) ∨
  (∃ c z, x = .str ⟨#[c]⟩ ∧ y = .str z ∧ k = decide (c ∈ z.cps.toList)) ∨
  (∃ a o r, y = .ref a ∧ rdM m a = some o ∧ getO o x r ∧ k = r.isSome) ∨
  ∃ t ts, Vw m x t ∧ Vw m y (.list ts) ∧ SeqAt.shaped t = true ∧ SeqAt.shaped (.list ts) = true ∧ k = ts.any fun z => PyData.eqv z t
theorem seqD_go {K : PySem.W.Frag} {H : Hp} {m : Mem} {y : D} {v : V} {ds : List D} (r : RM K H m) (h : seqD m y ds) (x : Rep K H y v) : ∃ p xs, v = .ref p ∧ (SqL K H p xs ∨ SqT K H p xs) ∧ Reps K H ds xs := by
  rcases h with rfl | ⟨a, rfl, e⟩
  · obtain ⟨a, xs, e, s, rr⟩ := Rep.tup_iff.mp x
    exact ⟨a, xs, e, .inr s.sq, rr⟩
  · obtain ⟨xs, s, rr⟩ := rd_lst r e
    exact ⟨a, xs, Rep.ref_iff.mp x, .inl s, rr⟩
theorem flD_flat {K : PySem.W.Frag} {H : Hp} {x : D} {v : V} (h : flD x = true) (r : Rep K H x v) : flatV v = true := by
  cases x with
  | int i => rw [Rep.int_iff.mp r]; rfl
  | str i => rw [Rep.str_iff.mp r]; rfl
  | bl i => rw [Rep.bl_iff.mp r]; rfl
  | non => rw [Rep.non_iff.mp r]; rfl
  | _ => cases h
theorem eqF_eqV {K : PySem.W.Frag} {H : Hp} {x z : D} {v w : V} (hx : flD x = true) (hz : flD z = true) (rx : Rep K H x v) (rz : Rep K H z w) : eqV w v = eqF z x := by
  cases x with
  | int i =>
    rw [Rep.int_iff.mp rx]
    cases z with
    | int j => rw [Rep.int_iff.mp rz]; simp [eqV, eqF]
    | str j => rw [Rep.str_iff.mp rz]; simp [eqV, eqF]
    | bl j => rw [Rep.bl_iff.mp rz]; simp [eqV, eqF]
    | non => rw [Rep.non_iff.mp rz]; simp [eqV, eqF]
    | _ => cases hz
  | str i =>
    rw [Rep.str_iff.mp rx]
    cases z with
    | int j => rw [Rep.int_iff.mp rz]; simp [eqV, eqF]
    | str j => rw [Rep.str_iff.mp rz]; simp [eqV, eqF]
    | bl j => rw [Rep.bl_iff.mp rz]; simp [eqV, eqF]
    | non => rw [Rep.non_iff.mp rz]; simp [eqV, eqF]
    | _ => cases hz
  | bl i =>
    rw [Rep.bl_iff.mp rx]
    cases z with
    | int j => rw [Rep.int_iff.mp rz]; simp [eqV, eqF]
    | str j => rw [Rep.str_iff.mp rz]; simp [eqV, eqF]
    | bl j => rw [Rep.bl_iff.mp rz]; simp [eqV, eqF]
    | non => rw [Rep.non_iff.mp rz]; simp [eqV, eqF]
    | _ => cases hz
  | non =>
    rw [Rep.non_iff.mp rx]
    cases z with
    | int j => rw [Rep.int_iff.mp rz]; simp [eqV, eqF]
    | str j => rw [Rep.str_iff.mp rz]; simp [eqV, eqF]
    | bl j => rw [Rep.bl_iff.mp rz]; simp [eqV, eqF]
    | non => rw [Rep.non_iff.mp rz]; simp [eqV, eqF]
    | _ => cases hz
  | _ => cases hx
theorem inV_go {K : PySem.W.Frag} {H : Hp} {x : D} {v : V} (hx : flD x = true) (rx : Rep K H x v) : ∀ {ds : List D} {xs : List V}, ds.all flD = true → Reps K H ds xs → xs.all flatV = true ∧ inV v xs = ds.any fun z => eqF z x
  | [], _, _, r => by rw [Reps.nil_iff.mp r]; exact ⟨rfl, rfl⟩
  | z :: ds, _, h, r => by
    obtain ⟨w, ws, rfl, r1, r2⟩ := Reps.cons_iff.mp r
    have h1 : flD z = true ∧ ds.all flD = true := by simpa using h
    obtain ⟨i1, i2⟩ := inV_go hx rx h1.2 r2
    refine ⟨by rw [List.all_cons, flD_flat h1.1 r1, i1]; rfl, ?_⟩
    unfold inV at i2 ⊢
    rw [List.any_cons, List.any_cons, i2, eqF_eqV hx h1.1 rx r1]
section
variable {X : Cx}
def rDI (neg : Bool) : R2 := fun y x H Q => ∃ a o, x = .ref a ∧ DGet H a y o ∧ Q (.bl (if neg then !o.isSome else o.isSome)) H
theorem op_inDk (hu : X.A.units + 1 < cLine) : OpR X (compareOp .In) (rDI false) := by
  intro pins s σ H y x v u Q I ry rx h
  obtain ⟨a, o, rfl, g, q⟩ := h
  obtain rfl : u = Value.ref a := rx
  exact d_in hu I g ry fun s3 I3 => ⟨.bl o.isSome, H, I3, rfl, q⟩
theorem op_notinDk (hu : X.A.units + 1 < cLine) : OpR X (compareOp .NotIn) (rDI true) := by
  intro pins s σ H y x v u Q I ry rx h
  obtain ⟨a, o, rfl, g, q⟩ := h
  obtain rfl : u = Value.ref a := rx
  exact d_notIn hu I g ry fun s3 I3 => ⟨.bl (!o.isSome), H, I3, rfl, q⟩
def wInn : R2m := fun x y m Q => ∃ k, InB m x y k ∧ Q (.bl k) m
def wNotInn : R2m := fun x y m Q => ∃ k, InB m x y k ∧ Q (.bl (!k)) m
theorem mo_in_u (hu : X.A.units + 65 < cLine) : MOp X (compareOp .In) wInn := mop_of (OpR.or op_in_seq (OpR.or op_in_sign (OpR.or (op_inDk (by omega)) (op_inD (by omega))))) fun x y v w H m Q Qm hx hy r q k => by
  obtain ⟨b, h, q⟩ := q
  have fin := k _ _ _ _ q r Step.refl Rep.bl
  rcases h with ⟨ds, sd, fx, fa, e⟩ | ⟨c, z, rfl, rfl, e⟩ | ⟨a, o, ro, rfl, e1, g, e⟩ | ⟨t, ts, h1, h2, s1, s2, e⟩
  · obtain ⟨p, xs, e1, s, rr⟩ := seqD_go r sd hy
    obtain ⟨i1, i2⟩ := inV_go fx hx fa rr
    exact .inl ⟨p, xs, e1, s, flD_flat fx hx, i1, by rw [i2, ← e]; exact fin⟩
  · exact .inr (.inl ⟨c, z, Rep.str_iff.mp hx, Rep.str_iff.mp hy, by rw [← e]; exact fin⟩)
  · obtain ⟨r', g', h1, h2⟩ := get_go r e1 g hx
    have e2 : r'.isSome = ro.isSome := by
      cases ro with
      | none => rw [h2 rfl]; rfl
      | some d => obtain ⟨w', e2, _⟩ := h1 d rfl; rw [e2]; rfl
    exact .inr (.inr (.inl ⟨a, r', Rep.ref_iff.mp hy, g', by rw [e2, ← e]; exact fin⟩))
  · exact .inr (.inr (.inr ⟨t, ts, h1.dp r _ _ _ hx, h2.dp r _ _ _ hy, s1, s2, by rw [← e]; exact fin⟩))
theorem mo_notin_u (hu : X.A.units + 65 < cLine) : MOp X (compareOp .NotIn) wNotInn := mop_of (OpR.or op_notIn_seq (OpR.or op_notIn_sign (OpR.or (op_notinDk (by omega)) (op_notInD (by omega))))) fun x y v w H m Q Qm hx hy r q k => by
  obtain ⟨b, h, q⟩ := q
  have fin := k _ _ _ _ q r Step.refl Rep.bl
  rcases h with ⟨ds, sd, fx, fa, e⟩ | ⟨c, z, rfl, rfl, e⟩ | ⟨a, o, ro, rfl, e1, g, e⟩ | ⟨t, ts, h1, h2, s1, s2, e⟩
  · obtain ⟨p, xs, e1, s, rr⟩ := seqD_go r sd hy
    obtain ⟨i1, i2⟩ := inV_go fx hx fa rr
    exact .inl ⟨p, xs, e1, s, flD_flat fx hx, i1, by rw [if_pos rfl, i2, ← e]; exact fin⟩
  · exact .inr (.inl ⟨c, z, Rep.str_iff.mp hx, Rep.str_iff.mp hy, by rw [← e]; exact fin⟩)
  · obtain ⟨r', g', h1, h2⟩ := get_go r e1 g hx
    have e2 : r'.isSome = ro.isSome := by
      cases ro with
      | none => rw [h2 rfl]; rfl
      | some d => obtain ⟨w', e2, _⟩ := h1 d rfl; rw [e2]; rfl
    exact .inr (.inr (.inl ⟨a, r', Rep.ref_iff.mp hy, g', by rw [if_pos rfl, e2, ← e]; exact fin⟩))
  · exact .inr (.inr (.inr ⟨t, ts, h1.dp r _ _ _ hx, h2.dp r _ _ _ hy, s1, s2, by rw [← e]; exact fin⟩))
end
section
variable {m : Mem} {Q : KM} {x y : D}
theorem i_in {k : Bool} (e : InB m x y k) (h : Q (.bl k) m) : wInn x y m Q := ⟨k, e, h⟩
theorem in_tup {ds : List D} (h1 : flD x = true) (h2 : ds.all flD = true) : InB m x (.tup ds) (ds.any fun z => eqF z x) := .inl ⟨ds, .inl rfl, h1, h2, rfl⟩
theorem in_sign {c : Nat} {z : Str} : InB m (.str ⟨#[c]⟩) (.str z) (decide (c ∈ z.cps.toList)) := .inr (.inl ⟨c, z, rfl, rfl, rfl⟩)
end
end Mm
namespace Mm
open PySem L2
open PyProof.Rows (envOfC)
section
variable {m : Mem} {a : Addr}
theorem rd_K {kvs : List (Key × D)} (h : m a = some (.dK kvs)) : rdM m a = some (.dK kvs) := rd_of h trivial
theorem rd_T {kvs : List (List Key × D)} (h : m a = some (.dT kvs)) : rdM m a = some (.dT kvs) := rd_of h trivial
theorem rd_L {ds : List D} (h : m a = some (.lst ds)) : rdM m a = some (.lst ds) := rd_of h trivial
theorem rd_I {C : Addr} {fs : List (Str × D)} (h : m a = some (.ins C fs)) : rdM m a = some (.ins C fs) := rd_of h trivial
end
section
variable {E : EndsM} {ρ : StM} {m : Mem} {Q : KM} {chk : Mem → Prop} {g : TGm} {tb : TSm} {ds : List D} {tt : TTm} {te : TEm} {vs : List Nat}
theorem i_for {ti : TIm} (h : ti ρ m fun ds chk m1 => forC chk g tb E ds ρ m1) : wFor ti g tb E ρ m := h
theorem i_lc {ti : TIm} (h : ti ρ m fun ds chk m1 => lcC chk g tt te vs ρ (fun acc m' => newO (.lst acc) m' Q) ds [] m1) : wLc ti g tt te vs ρ m Q := h
theorem forC_ind (P : List D → StM → Mem → Prop) (h0 : P ds ρ m) (hn : ∀ ρ m, P [] ρ m → chk m ∧ E.nx ρ m)
    (hc : ∀ d r ρ m (K : StM → Mem → Prop), (∀ ρ m, P r ρ m → K ρ m) → P (d :: r) ρ m → chk m ∧ g d ρ m fun ρ2 m2 => tb { E with nx := K, ct := K, bk := E.nx } ρ2 m2) : forC chk g tb E ds ρ m := by
  induction ds generalizing ρ m with
  | nil => exact hn ρ m h0
  | cons d r ih => exact hc d r ρ m _ (fun ρ m h => ih h) h0
theorem lcC_ind {QA : List D → Mem → Prop} {acc : List D} (P : List D → List D → Mem → Prop) (h0 : P ds acc m) (hn : ∀ acc m, P [] acc m → chk m ∧ QA acc m)
    (hc : ∀ d r acc m (K : List D → Mem → Prop), (∀ acc m, P r acc m → K acc m) → P (d :: r) acc m → chk m ∧ g d (wipeM ρ vs) m fun ρ2 m2 => wipeM ρ2 vs = wipeM ρ vs ∧ tt ρ2 m2 fun b m3 => if b = true then te ρ2 m3 fun y m4 => acc.length < sizeLine ∧ K (acc ++ [y]) m4 else K acc m3) :
    lcC chk g tt te vs ρ QA ds acc m := by
  induction ds generalizing acc m with
  | nil => exact hn acc m h0
  | cons d r ih => exact hc d r acc m _ (fun acc m h => ih h) h0
theorem lcC_pure {QA : List D → Mem → Prop} (f : D → D) (hl : ds.length ≤ sizeLine) (hk : chk m) (hb : ∀ d ∈ ds, ∀ R : KM, R (f d) m → g d (wipeM ρ vs) m fun ρ2 m2 => wipeM ρ2 vs = wipeM ρ vs ∧ te ρ2 m2 R) (q : QA (ds.map f) m) :
    lcC chk g wYes te vs ρ QA ds [] m := by
  refine lcC_ind (fun r acc m' => m' = m ∧ ∃ p, ds = p ++ r ∧ acc = p.map f) ⟨rfl, [], by simp, rfl⟩ ?_ ?_
  · rintro acc m' ⟨rfl, p, e, rfl⟩
    rw [List.append_nil] at e
    subst e
    exact ⟨hk, q⟩
  · rintro d r acc m' K hK ⟨rfl, p, e, rfl⟩
    refine ⟨hk, ?_⟩
    have hd : d ∈ ds := by rw [e]; simp
    have := hb d hd (fun y m4 => (p.map f).length < sizeLine ∧ K (p.map f ++ [y]) m4) ⟨by
      have : ds.length = p.length + (r.length + 1) := by rw [e]; simp
      rw [List.length_map]; omega, hK _ _ ⟨rfl, p ++ [d], by rw [e]; simp, by simp⟩⟩
    exact this
end
end Mm
namespace Mm
open PySem L2
open PyProof.Rows (envOfC)
theorem mput_off {m : Mem} {a b : Addr} {o o' : O} (h : a ≠ b) (e : m a = some o) : mput m b o' a = some o := (mput_ne h).trans e
theorem mput_off' {m : Mem} {a b : Addr} {o o' : O} (h : b ≠ a) (e : m a = some o) : mput m b o' a = some o := (mput_ne h.symm).trans e
def keyP (p : D × D) : Key × D := (match p.1 with | .str s => .inr s | .int i => .inl i | _ => .inl 0, p.2)
theorem i_disp {ps : List (TEm × TEm)} {ρ : StM} {m : Mem} {Q : KM} (h : wPairs ps ρ m fun prs m' => ∃ kvs : List (Key × D), prs = kvs.map (fun kv => (kD kv.1, kv.2)) ∧ kvs.length ≤ 15 ∧ newO (.dK (mergeD [] kvs)) m' Q) : wDisp ps ρ m Q := h
theorem i_pN {ρ : StM} {m : Mem} {Q : List (D × D) → Mem → Prop} (h : Q [] m) : wPairs [] ρ m Q := h
theorem i_pC {tk tv : TEm} {r : List (TEm × TEm)} {ρ : StM} {m : Mem} {Q : List (D × D) → Mem → Prop} (h : tk ρ m fun x m1 => tv ρ m1 fun y m2 => wPairs r ρ m2 fun ps m3 => Q ((x, y) :: ps) m3) : wPairs ((tk, tv) :: r) ρ m Q := h
theorem i_dispE {prs : List (D × D)} {m : Mem} {Q : KM} (e : prs = (prs.map keyP).map fun kv => (kD kv.1, kv.2)) (z : prs.length ≤ 15) (h : newO (.dK (mergeD [] (prs.map keyP))) m Q) : ∃ kvs : List (Key × D), prs = kvs.map (fun kv => (kD kv.1, kv.2)) ∧ kvs.length ≤ 15 ∧ newO (.dK (mergeD [] kvs)) m Q := ⟨_, e, by rw [List.length_map]; exact z, h⟩
theorem ty_L {m : Mem} {a : Addr} {ds : List D} (e : rdM m a = some (.lst ds)) : tyD m (.ref a) = some "list" := by
  unfold rdM at e
  show (match m a with | some (.lst _) => some "list" | some (.dK _) => some "dict" | some (.dT _) => some "dict" | some (.frz (.lst _)) => some "list" | _ => none) = _
  cases q : m a with
  | none => rw [q] at e; cases e
  | some o =>
    rw [q] at e
    cases o with
    | frz o => cases e; rfl
    | _ => cases e <;> rfl
theorem ty_K {m : Mem} {a : Addr} {kvs : List (Key × D)} (e : m a = some (.dK kvs)) : tyD m (.ref a) = some "dict" := by
  show (match m a with | some (.lst _) => some "list" | some (.dK _) => some "dict" | some (.dT _) => some "dict" | some (.frz (.lst _)) => some "list" | _ => none) = _
  rw [e]
theorem i_powL {i j : Int} {m : Mem} {Q : KM} {g : Int → Int → D} (c : 0 ≤ j ∧ j ≤ 1000000 ∧ i.natAbs < 18446744073709551616) (h : Q (g i j) m) : wI CPow g (.int i) (.int j) m Q := ⟨c, h⟩
theorem i_timesLL {i j : Int} {m : Mem} {Q : KM} (c : (-18446744073709551616 < i ∧ i < 18446744073709551616) ∨ (-18446744073709551616 < j ∧ j < 18446744073709551616)) (h : Q (.int (i * j)) m) : wTimes (.int i) (.int j) m Q := ⟨.inl c, h⟩
theorem i_divW {i j : Int} {m : Mem} {Q : KM} {g : Int → Int → D} (c : 0 < j) (c2 : j < 9223372036854775808) (h : Q (g i j) m) : wI CDivW g (.int i) (.int j) m Q := ⟨⟨c, by
  have := PySem.Flt.log2_lt_of (n := j.natAbs) (k := 63) (by decide) (by omega)
  omega⟩, h⟩
theorem i_mod {i j : Int} {m : Mem} {Q : KM} {g : Int → Int → D} (c : 0 < j) (h : Q (g i j) m) : wI (fun _ j => 0 < j) g (.int i) (.int j) m Q := ⟨c, h⟩
theorem law_start {K : PySem.W.Frag} {H : Hp} {a : Addr} {ns : List Int} (h : SqL K H a (ns.map V.int)) : ∃ m, RM K H m ∧ LsK K m a ns := by
  rcases h with (h | ⟨o, h⟩) | h
  · refine ⟨fun b => if b = a then some (.lst (ns.map .int)) else none, fun b o e => ?_, .inl ?_⟩
    · by_cases c : b = a
      · subst c
        dsimp only at e
        rw [if_pos rfl] at e; cases e
        exact ⟨_, h, _, rfl, Reps.ints ns⟩
      · dsimp only at e
        rw [if_neg c] at e; cases e
    · exact rd_L (if_pos rfl)
  · refine ⟨fun b => if b = a then some (.frz (.lst (ns.map .int))) else none, fun b o e => ?_, .inl ?_⟩
    · by_cases c : b = a
      · subst c
        dsimp only at e
        rw [if_pos rfl] at e; cases e
        exact ⟨_, h, _, _, rfl, _, rfl, Reps.ints ns⟩
      · dsimp only at e
        rw [if_neg c] at e; cases e
    · exact rd_frz (if_pos rfl)
  · refine ⟨fun _ => none, fun b o e => ?_, Or.inr h⟩
    cases e
def spLaw (K : PySem.W.Frag) : SpM := fun ds m Q _ => ∃ (c : Addr) (ns : List Int), ds = [.ref c] ∧ LsK K m c ns ∧ ns.length ≤ 63 ∧ ∀ m', Q (.bl true) m'
theorem spLaw_start {K : PySem.W.Frag} {H : Hp} {a : Addr} {ns : List Int} (hl : ns.length ≤ 63) (h : SqL K H a (ns.map V.int)) : liftSp K (spLaw K) [.ref a] H (fun v _ => v = .bl true) fun _ _ _ => False := by
  obtain ⟨m, r, l⟩ := law_start h
  refine ⟨[.ref a], m, fun d _ => d = .bl true, fun _ _ => False, Reps.cons Rep.ref Reps.nil, r, ⟨a, ns, rfl, l, hl, fun _ => rfl⟩, fun d m' v H' e _ _ x => ?_, fun _ _ _ z => z.elim⟩
  subst e
  exact Rep.bl_iff.mp x
end Mm
namespace Mm
open PySem L2
open PyProof.Rows (envOfC)
section
variable {X : Cx} {B : Bs} {e o : Expr} {pos apos : Pos} {pa pb : TEm}
theorem atI_cons {α : Type} {xs : List α} {i : Nat} {x : α} (h : xs[i]? = some x) : atI xs (i : Int) = some x := atI_nat h
theorem i_sub0 {m : Mem} {Q : KM} {d : D} {ds : List D} (h : Q d m) : wSub (.tup (d :: ds)) (.int 0) m Q := ⟨d, atI_cons (i := 0) rfl, h⟩
theorem i_sub1 {m : Mem} {Q : KM} {x d : D} {ds : List D} (h : Q d m) : wSub (.tup (x :: d :: ds)) (.int 1) m Q := ⟨d, atI_cons (i := 1) rfl, h⟩
theorem i_sub2 {m : Mem} {Q : KM} {x y d : D} {ds : List D} (h : Q d m) : wSub (.tup (x :: y :: d :: ds)) (.int 2) m Q := ⟨d, atI_cons (i := 2) rfl, h⟩
def wStr1 : RLm := fun ds m Q => match ds with
  | [.int i] => i.natAbs.log2 < 1920 ∧ Q (.str (Str.ofString (toString i))) m
  | [.str x] => Q (.str x) m
  | _ => False
theorem mc_str1 : MCall X (.type "str") wStr1 := mcall_of (CallR.or call_str_int SkE.call_str_str) fun ds vs H m Q Qm hx r q k => by
  unfold wStr1 at q; split at q
  · obtain ⟨v, e, x⟩ := reps1 hx
    rw [Rep.int_iff.mp x] at e
    exact .inl ⟨_, e, q.1, k _ _ _ _ q.2 r Step.refl Rep.str⟩
  · obtain ⟨v, e, x⟩ := reps1 hx
    rw [Rep.str_iff.mp x] at e
    exact .inr ⟨_, e, k _ _ _ _ q r Step.refl Rep.str⟩
  · exact q.elim
def strAt (d : D) (k : Str → Prop) : Prop := match d with
  | .str a => k a
  | _ => False
theorem i_strAt {a : Str} {k : Str → Prop} (h : k a) : strAt (.str a) k := h
theorem Reps.strs {K : PySem.W.Frag} {H : Hp} : ∀ {ys : List Str} {vs : List V}, Reps K H (ys.map .str) vs → vs = ys.map V.str
  | [], _, h => Reps.nil_iff.mp h
  | y :: ys, _, h => by
    obtain ⟨v, w, rfl, a, b⟩ := Reps.cons_iff.mp h
    rw [Rep.str_iff.mp a, Reps.strs b]; rfl
def wJoinV (a : Str) (y : D) (m : Mem) (Q : KM) : Prop := refAt y fun p => ∃ ys : List Str, rdM m p = some (.lst (ys.map .str)) ∧ (ys.map (·.length)).sum + ys.length * a.length ≤ 16777216 ∧ Q (.str (Txt.join a ys)) m
def wJoin (pa pb : TEm) : TEm := fun ρ m Q => pa ρ m fun x m1 => strAt x fun a => pb ρ m1 fun y m2 => wJoinV a y m2 Q
theorem mx_join (ho : MX X B o pa) (he : MX X B e pb) (hs : starEach [e] X.env = [(false, eval e X.env)] := by rfl) (hbase : attributeBase o "join" X.env (eval o X.env) = eval o X.env := by rfl) (hline : (apos.endLine == pos.line) = true := by rfl) :
    MX X B (.Call (.Attribute o "join" apos) [e] [] pos) (wJoin pa pb) := peImp (pe_join ho he hs hbase hline) fun σ H Q ⟨ρ, m, Qm, A, q, k⟩ => by
  refine ⟨ρ, m, _, A, q, fun x m1 v H1 q1 r1 t1 x1 => ?_⟩
  unfold strAt at q1
  split at q1
  · refine ⟨⟨_, Rep.str_iff.mp x1⟩, ρ, m1, _, A.step r1 t1, q1, fun y m2 w H2 q2 r2 t2 x2 => ?_⟩
    unfold wJoinV refAt at q2
    split at q2
    · obtain ⟨ys, e1, z, q2⟩ := q2
      obtain ⟨xs, s, rr⟩ := rd_lst r2 e1
      rw [Reps.strs rr] at s
      exact ⟨_, _, ys, Rep.str_iff.mp x1, by rw [Rep.ref_iff.mp x2], .inl s, z, k _ _ _ _ q2 r2 (t1.trans t2) Rep.str⟩
    · exact q2.elim
  · exact q1.elim
end
end Mm
namespace Mm
open PySem L2
open PyProof.Rows (envOfC)
section
variable {prog : Program} {w : World} {A : Around} {E : Value → Shared → Prop} {s : Shared} {Q : Bool → Shared → Prop}
def IsFt (h : Heap) (v : Value) (ks : List Key) : Prop := ∃ a o n its, v = .ref a ∧ h.get? a = some o ∧ o.cls = .type "tuple" ∧ o.data = .seq its n ∧ Vals (ks.map kV) its.toList
theorem IsFt.keeps {h h' : Heap} {v : Value} {ks : List Key} (p : IsFt h v ks) (k : ∀ b o, h.get? b = some o → o.cls = .type "tuple" → h'.get? b = some o) : IsFt h' v ks := by
  obtain ⟨a, o, n, its, e, ho, hc, hd, r⟩ := p
  exact ⟨a, o, n, its, e, k _ _ ho hc, hc, hd, r⟩
end
end Mm
namespace Mm
open PySem L2
open PyProof.Rows (envOfC)
section
variable {X : Cx} {B : Bs} {a b c : Expr} {la : TAm} {pos : Pos}
def EqM (m : Mem) (x y : D) (k : Bool) : Prop := scD x y = some k ∨ ∃ t u, Vw m x t ∧ Vw m y u ∧ t.canLay0 = true ∧ u.canLay0 = true ∧ min t.depth u.depth ≤ 64 ∧ k = PyData.eqv t u
def rEqM (K : PySem.W.Frag) (neg : Bool) : R2 := fun x y H Q => ∃ d e, Dp K H x d ∧ Dp K H y e ∧ d.canLay0 = true ∧ e.canLay0 = true ∧ min d.depth e.depth ≤ 64 ∧ Q (.bl (if neg then !PyData.eqv d e else PyData.eqv d e)) H
theorem op_eqM (hu : X.A.units + 64 < cLine) : OpR X (compareOp .Eq) (rEqM X.K false) := by
  intro pins s σ H x y v u Q I rx ry h
  obtain ⟨d, e, hd, he, sd, se, hm, q⟩ := h
  obtain ⟨as, r1⟩ := Dp.reads I d x v hd rx
  obtain ⟨bs, r2⟩ := Dp.reads I e y u he ry
  exact SeqAt.compareEq_reads r1 r2 sd se (by omega) ⟨.bl _, H, I, rfl, q⟩
def wEqM : R2m := fun x y m Q => ∃ k, EqM m x y k ∧ Q (.bl k) m
theorem i_eqM {x y : D} {m : Mem} {Q : KM} {k : Bool} (e : EqM m x y k) (h : Q (.bl k) m) : wEqM x y m Q := ⟨k, e, h⟩
theorem mo_eqM_u (hu : X.A.units + 65 < cLine) : MOp X (compareOp .Eq) wEqM := mop_of (OpR.or op_eq (op_eqM (by omega))) fun x y v w H m Q Qm hx hy r q k => by
  obtain ⟨b, h, q⟩ := q
  have fin := k _ _ _ _ q r Step.refl Rep.bl
  rcases h with h | ⟨t, u, h1, h2, s1, s2, hm, e⟩
  · obtain ⟨z1, z2⟩ := scD_of hx hy h
    exact .inl ⟨z1, by rw [z2]; exact fin⟩
  · exact .inr ⟨t, u, h1.dp r _ _ _ hx, h2.dp r _ _ _ hy, s1, s2, hm, by rw [if_neg Bool.false_ne_true, ← e]; exact fin⟩
def GlT (K : PySem.W.Frag) (mg : Str → Option Value) (x : Str) (d : D) : Prop := ∃ v u, mg x = some u ∧ RelV v u ∧ ∀ H, Rep K H d v
theorem gl_tupS {K : PySem.W.Frag} {mg : Str → Option Value} {x : Str} {t : Addr} {zs : List Str} {o : Obj} {its : Array Value} {n : Nat} (hm : mg x = some (.ref t)) (l : K.lookup t = some o) (hc : o.cls = .type "tuple") (hd : o.data = .seq its n) (hz : its.size ≤ sizeLine)
    (hv : Vals (zs.map V.str) its.toList) (h : zs.length = 1 ∨ zs.length = 5) : GlT K mg x (.tup (zs.map .str)) :=
  ⟨.ref t, _, hm, rfl, fun H => Rep.tup_iff.mpr ⟨t, zs.map V.str, rfl, .inr ⟨by rw [List.length_map]; exact h, .inr ⟨o, its, n, l, hc, hd, hz, hv⟩⟩, by
    clear hv h
    induction zs with
    | nil => exact Reps.nil
    | cons z zs ih => exact Reps.cons Rep.str ih⟩⟩
theorem mx_gt {B : Bs} {x : Str} {pos : Pos} {d : D} (h : GlT X.K X.mg x d) (hg : Gl X x := by rfl) (hd : (x == ("__debug__" : Str)) = false := by decide) : MX X B (.Name x pos) (wC d) := by
  obtain ⟨v, u, h1, h2, h3⟩ := h
  exact mx_glob hg h1 h2 h3 hd
end
end Mm
namespace Mm
open PySem L2
section
variable {X : Cx} {B : Bs} {a b : Expr} {rest : List Expr} {pos : Pos} {pa pb : TEm}
def truN (d : D) : Option Bool := match d with
  | .non => some false
  | .bl b => some b
  | _ => none
def wAndT (p q : TEm) : TEm := fun ρ m Q => p ρ m fun d m1 => ∃ k, truN d = some k ∧ if k = true then q ρ m1 Q else Q d m1
end
end Mm
namespace Mm
open PySem L2
section
variable {X : Cx} {B : Bs} {tg iter : Expr} {p : TEm}
def signsD (x : Str) : List D := x.cps.toList.map fun c => .str ⟨#[c]⟩
def iStrM (p : TEm) : TIm := fun ρ m R => p ρ m fun d m1 => ∃ x, d = .str x ∧ R (signsD x) (fun _ => True) m1
end
end Mm
namespace Mm
open PySem L2
open PyProof.Rows (envOfC)
section
variable {X : Cx} {B : Bs} {E' : XK} {Em : XM} {C : Addr}
theorem passX0 {X : Cx} {B : Bs} : Passes (L2.CX X.prog X.w) X (uX X.K B noX) := fun _ _ _ _ _ _ _ h => by
  obtain ⟨_, _, _, _, _, _, _, _, _, _, _, _, z⟩ := h
  obtain ⟨_, _, _, _, z, _⟩ := z
  exact z.elim
def wRaise (Em : XM) (C : Addr) : TSm := fun _ _ m => Em C m
abbrev XS := Addr → StM → Mem → Prop
def wCallS (sp : SpM) (Es : XS) (t : TAm) : TEm := fun ρ m Q => t ρ m fun ds m1 => sp ds m1 Q fun C m2 => Es C ρ m2
variable {k : Nat} {f : Addr} {fd : FuncData} {ps : List Str} {sp : SpM} {Es : XS} {x n : Str} {e : Expr} {es : List Expr} {la : TAm} {pos p pos' np : Pos} {W : WX}
def wTryAs (C : Addr) (i : Nat) (tb : XS → TSm) (ts : Addr → TSm) : TSm := fun E ρ m =>
  tb (fun C' ρ' m' => C' = C ∧ ∀ a, m' a = none → ts a { nx := fun ρ2 m2 => E.nx (ρ2.set i none) m2, rt := E.rt, bk := fun ρ2 m2 => E.bk (ρ2.set i none) m2, ct := fun ρ2 m2 => E.ct (ρ2.set i none) m2 } (ρ'.set i (some (.ref a))) m') E ρ m
def wIsE (K : PySem.W.Frag) (C a : Addr) : RLm := fun ds m Q => match ds with
  | [.ref a', .ref C'] => a' = a ∧ ∃ b, PySem.W.kitOne K (.ref C) (.ref C') = some b ∧ Q (.bl b) m
  | [.ref a', .ty T] => a' = a ∧ ∃ b, PySem.W.kitOne K (.ref C) (.type T) = some b ∧ Q (.bl b) m
  | _ => False
theorem mc_isE {a : Addr} {oe : Obj} {pn : List (Addr × Obj)} (T : ExcC X.K C) (hz : Zc (.ref C) none oe) (hf : ∃ vs, oe.data = .fields vs) : MCall (X.suite a ((a, oe) :: pn)) (.builtin "isinstance") (wIsE X.K C a) :=
  mcall_of (call_isE T hz hf) fun ds vs H m Q Qm hx r q k => by
    unfold wIsE at q; split at q
    · obtain ⟨v, w, e, x, y⟩ := reps2 hx
      obtain ⟨rfl, b, hk, q⟩ := q
      rw [Rep.ref_iff.mp x, Rep.ref_iff.mp y] at e
      exact ⟨_, _, b, e, fun u r => by cases r; rfl, hk, k _ _ _ _ q r Step.refl Rep.bl⟩
    · obtain ⟨v, w, e, x, y⟩ := reps2 hx
      obtain ⟨rfl, b, hk, q⟩ := q
      rw [Rep.ref_iff.mp x, Rep.ty_iff.mp y] at e
      exact ⟨_, _, b, e, fun u r => by cases r; rfl, hk, k _ _ _ _ q r Step.refl Rep.bl⟩
    · exact q.elim
end
structure XcF (K : PySem.W.Frag) (mg : Str → Option Value) (x : Str) (C : Addr) : Prop where
  g : mg x = some (.ref C)
  q : PySem.W.excIn K C [.type "ValueError", .type "Exception", .type "BaseException", .type "object"] "ValueError.__new__" = true
  k : PySem.W.keepIn K (.ref C) = true
  t : PySem.W.typeIn K (.ref C) = some (.type "type")
  c : ExcC K C
theorem mx_exc {X : Cx} {B : Bs} {x : Str} {pos : Pos} {C : Addr} (F : XcF X.K X.mg x C) (hg : Gl X x := by rfl) (hd : (x == ("__debug__" : Str)) = false := by decide) : MX X B (.Name x pos) (wC (.ref C)) := mx_glob (v := .ref C) hg F.g rfl (fun _ => Rep.ref) hd
theorem XcF.raises {X : Cx} {x : Str} {C : Addr} (F : XcF X.K X.mg x C) : Raises X (.ref C) := raises_own F.c.hs F.t
theorem XcF.exm {K : PySem.W.Frag} {mg : Str → Option Value} {x : Str} {C D : Addr} {b : Bool} (F : XcF K mg x C) (h : PySem.W.subIn K (.ref D) (.ref C) = some b) : PySem.W.exmOne K (.ref D) (.ref C) = some b := PySem.W.exm_ref F.c.hs F.c.hd F.t h
theorem XcF.kit {K : PySem.W.Frag} {mg : Str → Option Value} {x : Str} {C D : Addr} {b : Bool} (F : XcF K mg x C) (h : PySem.W.subIn K (.ref D) (.ref C) = some b) (h0 : PySem.W.subIn K (.ref C) (.ref C) = some true) : PySem.W.kitOne K (.ref D) (.ref C) = some b := by
  unfold PySem.W.kitOne
  split
  · rename_i e
    have e : D = C := Value.ref.inj (beq_iff_eq.mp e)
    subst e
    rw [h0] at h; exact h
  · obtain ⟨cd, hc, _⟩ := PySem.W.any_some F.c.hd
    have e2 : ((PySem.W.clsIn K C).isSome && PySem.W.typeIn K (.ref C) == some (.type "type")) = true := by rw [hc, F.t] <;> rfl
    show (if ((PySem.W.clsIn K C).isSome && PySem.W.typeIn K (.ref C) == some (.type "type")) = true then PySem.W.subIn K (.ref D) (.ref C) else none) = some b
    rw [if_pos e2]; exact h
theorem kit_val {K : PySem.W.Frag} {D : Addr} (h : PySem.W.subIn K (.ref D) (.type "ValueError") = some true) : PySem.W.kitOne K (.ref D) (.type "ValueError") = some true := by
  unfold PySem.W.kitOne
  split
  · rfl
  · show (if PySem.W.kitMeta "ValueError" = true then PySem.W.subIn K (.ref D) (.type "ValueError") else none) = some true
    rw [if_pos (by decide +kernel)]; exact h
end Mm
namespace Mm
open PySem L2
open PyProof.Rows (envOfC)
def putFD (f : Str) (v : D) : List (Str × D) → List (Str × D)
  | [] => [(f, v)]
  | (g, x) :: r => if g = f then (g, v) :: r else (g, x) :: putFD f v r
section
variable {K : PySem.W.Frag} {H : Hp} {f : Str}
theorem KVs.putF {d : D} {v : V} (hd : Rep K H d v) : ∀ {a : List (Str × D)} {b : List (Str × V)}, KVs K H a b → KVs K H (putFD f d a) (L2.putF f v b)
  | _, _, .nil => .cons ⟨rfl, hd⟩ .nil
  | _, _, .cons (a := p) (b := q) h r => by
    obtain ⟨p1, p2⟩ := p
    obtain ⟨q1, q2⟩ := q
    obtain ⟨e, h2⟩ := h
    dsimp only at e h2
    subst e
    unfold putFD L2.putF
    by_cases c : p1 = f
    · rw [if_pos c, if_pos c]; exact .cons ⟨rfl, hd⟩ r
    · rw [if_neg c, if_neg c]; exact .cons ⟨rfl, h2⟩ (KVs.putF hd r)
theorem KVs.look : ∀ {a : List (Str × D)} {b : List (Str × V)}, KVs K H a b → (∀ d, a.lookup f = some d → ∃ v, b.lookup f = some v ∧ Rep K H d v) ∧ (a.lookup f = none → b.lookup f = none)
  | _, _, .nil => ⟨fun d e => (nomatch e), fun _ => rfl⟩
  | _, _, .cons (a := p) (b := q) h r => by
    obtain ⟨p1, p2⟩ := p
    obtain ⟨q1, q2⟩ := q
    obtain ⟨e, h2⟩ := h
    dsimp only at e h2
    subst e
    obtain ⟨i1, i2⟩ := KVs.look r
    by_cases c : f = p1
    · have hb : (f == p1) = true := beq_iff_eq.mpr c
      simp only [List.lookup, hb]
      exact ⟨fun d e => by cases e; exact ⟨q2, rfl, h2⟩, fun e => (nomatch e)⟩
    · have hb : (f == p1) = false := beq_eq_false_iff_ne.mpr c
      simp only [List.lookup, hb]
      exact ⟨i1, i2⟩
end
structure ObK (K : PySem.W.Frag) (C : Addr) (L : List Str) : Prop where
  cl : Cls K C
  na : ∀ f ∈ L, NoAttr K C f
theorem na_nil {K : PySem.W.Frag} {C : Addr} : ∀ f ∈ ([] : List Str), NoAttr K C f := fun _ h => (nomatch h)
theorem na_cons {K : PySem.W.Frag} {C : Addr} {g : Str} {L : List Str} (h : NoAttr K C g) (r : ∀ f ∈ L, NoAttr K C f) : ∀ f ∈ g :: L, NoAttr K C f := fun f hf => by
  rcases List.mem_cons.mp hf with rfl | hf
  · exact h
  · exact r f hf
structure Dm (K : PySem.W.Frag) (C : Addr) (x : Str) (f : Addr) (fd : FuncData) (ps : List Str) : Prop where
  c : Cls K C
  b : Binds K fd ps []
  m : Meth K C x f
structure Dc (K : PySem.W.Frag) (mg : Str → Option Value) (x : Str) (C f : Addr) (fd : FuncData) (ps : List Str) : Prop where
  g : mg x = some (.ref C)
  b : Binds K fd ps []
  k : Mk K C f
section
variable {X : Cx} {B : Bs} {o e value : Expr} {es : List Expr} {f : Str} {pos pos' p apos : Pos} {pa pv : TEm} {la : TAm}
def fldAt (K : PySem.W.Frag) (f : Str) (a : Addr) (Q : KM) (m : Mem) : Prop := ∃ C fs L d, m a = some (.ins C fs) ∧ ObK K C L ∧ f ∈ L ∧ fs.lookup f = some d ∧ Q d m
def setAt (K : PySem.W.Frag) (f : Str) (a : Addr) (y : D) (n : Mem → Prop) (m : Mem) : Prop := ∃ C fs L, m a = some (.ins C fs) ∧ ObK K C L ∧ f ∈ L ∧ fs.length < 1000 ∧ n (mput m a (.ins C (putFD f y fs)))
def wFld (K : PySem.W.Frag) (f : Str) (p : TEm) : TEm := fun ρ m Q => p ρ m fun x m1 => refAt x fun a => fldAt K f a Q m1
theorem mx_fld (h : MX X B o pa) (hb : attributeBase o f X.env (eval o X.env) = eval o X.env) : MX X B (.Attribute o f pos) (wFld X.K f pa) :=
  peImp (pe_fld h hb) fun σ H Q ⟨ρ, m, Qm, A, q, k⟩ => by
    refine ⟨ρ, m, _, A, q, fun x m1 v H1 q1 r1 t1 x1 => ?_⟩
    unfold refAt at q1
    split at q1
    · obtain ⟨C, fs, L, d, e, ok, hf, l, q1⟩ := q1
      obtain ⟨u, h1, dx, xs, rfl, kv⟩ := r1 _ _ e
      obtain ⟨w, l2, rw'⟩ := kv.look.1 d l
      exact ⟨_, C, dx, xs, w, Rep.ref_iff.mp x1, h1, ok.cl, ok.na f hf, l2, k _ _ _ _ q1 r1 t1 rw'⟩
    · exact q1.elim
def wSetF (K : PySem.W.Frag) (f : Str) (pa pv : TEm) : TSm := fun E ρ m => pv ρ m fun y m1 => pa ρ m1 fun x m2 => refAt x fun a => setAt K f a y (E.nx ρ) m2
theorem ms_fld (ha : MX X B o pa) (hv : MX X B value pv) (hs : swapsWith value (some (.Attribute o f pos')) pos.line X.env = pure false) : MS X B (.Assign [.Attribute o f pos'] value pos) (wSetF X.K f pa pv) :=
  psImp (ps_fld ha hv hs) fun D σ H ⟨ρ, m, E, A, q, n, _⟩ => by
    refine ⟨ρ, m, _, A, q, fun y m1 v H1 q1 r1 t1 y1 => ?_⟩
    refine ⟨ρ, m1, _, A.step r1 t1, q1, fun x m2 w H2 q2 r2 t2 x2 => ?_⟩
    unfold refAt at q2
    split at q2
    · obtain ⟨C, fs, L, e, ok, hf, hl, q2⟩ := q2
      obtain ⟨u, h1, dx, xs, rfl, kv⟩ := r2 _ _ e
      have y2 := y1.stay (t2.tups r1)
      have r3 := r2.put (o := .ins C (putFD f y fs)) (u := .ins C dx (L2.putF f v xs)) e trivial ⟨dx, _, rfl, kv.putF y2⟩
      have t3 : Step m2 H2 (mput m2 _ (.ins C (putFD f y fs))) (upd H2 _ (.ins C dx (L2.putF f v xs))) := Step.put r2 e trivial
      have t := t1.trans (t2.trans t3)
      exact ⟨_, C, dx, xs, Rep.ref_iff.mp x2, h1, ok.cl, ok.na f hf, by rw [← kv.length]; exact hl, n _ _ _ _ q2 r3 t (A.step r3 t).s⟩
    · exact q2.elim
variable {CX : CXT} {k : Nat} {g C : Addr} {fd : FuncData} {ps : List Str} {sp : SpM} {Em : XM} {x n : Str}
def methAt (C : Addr) (n : Str) (a : Addr) (m : Mem) (R : Prop) : Prop := ∃ fs, m a = some (.ins C fs) ∧ fs.lookup n = none ∧ R
def wMeth (C : Addr) (n : Str) (sp : SpM) (Em : XM) (p : TEm) (t : TAm) : TEm := fun ρ m Q => p ρ m fun x m1 => refAt x fun a => methAt C n a m1 (t ρ m1 fun ds m2 => sp (.ref a :: ds) m2 Q Em)
def wMake (C : Addr) (sp : SpM) (Em : XM) (t : TAm) : TEm := fun ρ m Q => t ρ m fun ds m1 => ∀ p, m1 p = none → sp (.ref p :: ds) (mput m1 p (.ins C [])) (fun d m2 => d = .non ∧ Q (.ref p) m2) Em
theorem make_new {K : PySem.W.Frag} {m : Mem} {H : Hp} (r : RM K H m) {x dx : Addr} (hx : H x = none) (hdx : H dx = none) (ne : dx ≠ x) :
    m x = none ∧ RM K (upd (upd H dx (.own x)) x (.ins C dx [])) (mput m x (.ins C [])) ∧ Step m H (mput m x (.ins C [])) (upd (upd H dx (.own x)) x (.ins C dx [])) := by
  have r1 : RM K (upd H dx (.own x)) m := r.hid hdx
  have hx1 : (upd H dx (.own x)) x = none := by rw [upd_ne ne.symm]; exact hx
  exact ⟨r.out hx, r1.new hx1 ⟨dx, [], rfl, .nil⟩, (Step.hid r hdx).trans (Step.new r1 hx1)⟩
end
section
variable {X : Cx} {B : Bs} {o e : Expr} {es : List Expr} {pos p apos : Pos} {pa : TEm} {la : TAm} {k : Nat} {g C : Addr} {fd : FuncData} {ps : List Str} {sp : SpM} {x n : Str} {W : WX} {Es : XS}
def tMakeS (C : Addr) (sp : Sp) (E : St → XK) (t : TA) : TE := fun σ H Q => t σ H fun vs H1 => ∀ x dx, H1 x = none → H1 dx = none → dx ≠ x →
  sp (.ref x :: vs) (upd (upd H1 dx (.own x)) x (.ins C dx [])) (fun v H2 => v = .non ∧ Q (.ref x) H2) (E σ)
def wMakeS (C : Addr) (sp : SpM) (Es : XS) (t : TAm) : TEm := fun ρ m Q => t ρ m fun ds m1 => ∀ p, m1 p = none → sp (.ref p :: ds) (mput m1 p (.ins C [])) (fun d m2 => d = .non ∧ Q (.ref p) m2) fun C m2 => Es C ρ m2
def tMethS (C : Addr) (m : Str) (sp : Sp) (E : St → XK) (ta : TE) (t : TA) : TE := fun σ H Q => ta σ H fun x H1 => ∃ a dx fs, x = .ref a ∧ H1 a = some (.ins C dx fs) ∧ fs.lookup m = none ∧ t σ H1 fun vs H2 => sp (x :: vs) H2 Q (E σ)
def wMethS (C : Addr) (n : Str) (sp : SpM) (Es : XS) (p : TEm) (t : TAm) : TEm := fun ρ m Q => p ρ m fun x m1 => refAt x fun a => methAt C n a m1 (t ρ m1 fun ds m2 => sp (.ref a :: ds) m2 Q fun C m3 => Es C ρ m3)
end
section
variable {E : EndsM} {ρ : StM} {m : Mem} {Q : KM} {pa pv : TEm} {la : TAm} {K : PySem.W.Frag} {f : Str}
theorem i_fld {a C : Addr} {fs : List (Str × D)} {L : List Str} {d : D} (e : m a = some (.ins C fs)) (ok : ObK K C L) (hf : f ∈ L) (l : fs.lookup f = some d) (q : Q d m) : fldAt K f a Q m := ⟨C, fs, L, d, e, ok, hf, l, q⟩
theorem i_wfld (h : pa ρ m fun x m1 => refAt x fun a => fldAt K f a Q m1) : wFld K f pa ρ m Q := h
theorem i_wsetF (h : pv ρ m fun y m1 => pa ρ m1 fun x m2 => refAt x fun a => setAt K f a y (E.nx ρ) m2) : wSetF K f pa pv E ρ m := h
theorem i_setF {a C : Addr} {fs : List (Str × D)} {L : List Str} {R : Mem → Prop} {y : D} (e : m a = some (.ins C fs)) (ok : ObK K C L) (hf : f ∈ L) (l : fs.length < 1000) (q : R (mput m a (.ins C (putFD f y fs)))) : setAt K f a y R m := ⟨C, fs, L, e, ok, hf, l, q⟩
theorem i_wmeth {C : Addr} {n : Str} {sp : SpM} {Em : XM} (h : pa ρ m fun x m1 => refAt x fun a => methAt C n a m1 (la ρ m1 fun ds m2 => sp (.ref a :: ds) m2 Q Em)) : wMeth C n sp Em pa la ρ m Q := h
theorem i_meth {a C : Addr} {fs : List (Str × D)} {n : Str} {R : Prop} (e : m a = some (.ins C fs)) (l : fs.lookup n = none) (q : R) : methAt C n a m R := ⟨fs, e, l, q⟩
theorem i_wmake {C : Addr} {sp : SpM} {Em : XM} (h : la ρ m fun ds m1 => ∀ p, m1 p = none → sp (.ref p :: ds) (mput m1 p (.ins C [])) (fun d m2 => d = .non ∧ Q (.ref p) m2) Em) : wMake C sp Em la ρ m Q := h
theorem i_wmakeS {C : Addr} {sp : SpM} {Es : XS} (h : la ρ m fun ds m1 => ∀ p, m1 p = none → sp (.ref p :: ds) (mput m1 p (.ins C [])) (fun d m2 => d = .non ∧ Q (.ref p) m2) fun C m2 => Es C ρ m2) : wMakeS C sp Es la ρ m Q := h
theorem i_wmethS {C : Addr} {n : Str} {sp : SpM} {Es : XS} (h : pa ρ m fun x m1 => refAt x fun a => methAt C n a m1 (la ρ m1 fun ds m2 => sp (.ref a :: ds) m2 Q fun C m3 => Es C ρ m3)) : wMethS C n sp Es pa la ρ m Q := h
theorem i_wcallS {sp : SpM} {Es : XS} (h : la ρ m fun ds m1 => sp ds m1 Q fun C m2 => Es C ρ m2) : wCallS sp Es la ρ m Q := h
theorem i_try {C : Addr} {i : Nat} {tb : XS → TSm} {ts : Addr → TSm} (h : tb (fun C' ρ' m' => C' = C ∧ ∀ a, m' a = none → ts a { nx := fun ρ2 m2 => E.nx (ρ2.set i none) m2, rt := E.rt, bk := fun ρ2 m2 => E.bk (ρ2.set i none) m2, ct := fun ρ2 m2 => E.ct (ρ2.set i none) m2 } (ρ'.set i (some (.ref a))) m') E ρ m) : wTryAs C i tb ts E ρ m := h
end
end Mm
namespace Mm
open PySem L2
section
variable {X : Cx} {B : Bs} {o e i : Expr} {pos apos cpos : Pos} {pa pb : TEm}
def dropKD (kvs : List (Key × D)) (k : Key) : List (Key × D) := kvs.filter fun kv => decide (kv.1 ≠ k)
theorem KVs.drop {K : PySem.W.Frag} {H : Hp} {k : Key} : ∀ {a : List (Key × D)} {b : List (Key × V)}, KVs K H a b → KVs K H (dropKD a k) (dropK b k)
  | _, _, .nil => .nil
  | _, _, .cons (a := p) (b := q) h r => by
    have e : (p.1 = k) = (q.1 = k) := by rw [h.1]
    unfold dropKD dropK
    rw [List.filter_cons, List.filter_cons]
    by_cases c : p.1 = k
    · have c' : q.1 = k := e ▸ c
      simp only [c, c', ne_eq, not_true_eq_false, decide_false, Bool.false_eq_true, if_false]
      exact KVs.drop r
    · have c' : ¬ q.1 = k := e ▸ c
      simp only [c, c', ne_eq, not_false_eq_true, decide_true, if_true]
      exact .cons h (KVs.drop r)
end
end Mm
namespace Mm
open PySem L2
abbrev KNs (K : PySem.W.Frag) (H : Hp) : List (NestedKey × D) → List (NestedKey × Addr × V) → Prop := Paired fun p q => p.1 = q.1 ∧ p.1.depth ≤ 8 ∧ Rep K H (nkD p.1) (.ref q.2.1) ∧ Rep K H p.2 q.2.2
section
variable {X : Cx} {pins : List (Addr × Obj)} {σ : St} {H : Hp} {s : Shared}
abbrev NRel : List (NestedKey × Addr × V) → List (NestedKey × Addr × Value) → Prop := Paired fun p q => p.1 = q.1 ∧ p.2.1 = q.2.1 ∧ RelV p.2.2 q.2.2
def putX (xs : List (NestedKey × Addr × V)) (k : NestedKey) (b : Addr) (v : V) : List (NestedKey × Addr × V) :=
  if (xs.any fun x => decide (x.1 = k)) = true then xs.map (fun x => if x.1 = k then (x.1, x.2.1, v) else x) else xs ++ [(k, b, v)]
theorem NRel.put {xs : List (NestedKey × Addr × V)} {ys : List (NestedKey × Addr × Value)} (rel : NRel xs ys) {k : NestedKey} {b : Addr} {v : V} {u : Value} (r : RelV v u) : NRel (putX xs k b v) (storedH ys k b u) := by
  have e1 : (xs.any fun x => decide (x.1 = k)) = (atKey ys k).isSome := by
    induction rel with
    | nil => rfl
    | @cons p q ps qs h _ ih =>
      rw [List.any_cons, ih]
      by_cases e : p.1 = k
      · have e' : q.1 = k := h.1 ▸ e
        simp [atKey, List.find?_cons, e, e']
      · have e' : ¬ q.1 = k := h.1 ▸ e
        simp [atKey, List.find?_cons, e, e']
  unfold putX storedH
  rw [e1]
  split
  · rename_i hh
    clear e1 hh
    induction rel with
    | nil => exact .nil
    | @cons p q ps qs h _ ih =>
      refine .cons ?_ ih
      unfold putAt
      by_cases e : p.1 = k
      · have e' : q.1 = k := h.1 ▸ e
        simp only [if_pos e, if_pos e']; exact ⟨h.1, h.2.1, r⟩
      · have e' : ¬ q.1 = k := h.1 ▸ e
        simp only [if_neg e, if_neg e']; exact h
  · exact Paired.snoc rel ⟨rfl, rfl, r⟩
theorem KNs.put {K : PySem.W.Frag} {kvs : List (NestedKey × D)} {xs : List (NestedKey × Addr × V)} (kv : KNs K H kvs xs) {k : NestedKey} {b : Addr} {d : D} {v : V} (hd : k.depth ≤ 8) (hk : Rep K H (nkD k) (.ref b)) (r : Rep K H d v) : KNs K H (putD kvs k d) (putX xs k b v) := by
  have e1 : (kvs.any fun x => decide (x.1 = k)) = (xs.any fun x => decide (x.1 = k)) := by
    induction kv with
    | nil => rfl
    | cons h _ ih => rw [List.any_cons, List.any_cons, ih, h.1]
  unfold putX putD
  rw [e1]
  split
  · rename_i hh
    clear e1 hh
    induction kv with
    | nil => exact .nil
    | @cons p q ps qs h _ ih =>
      refine .cons ?_ ih
      by_cases e : p.1 = k
      · have e' : q.1 = k := h.1 ▸ e
        simp only [if_pos e, if_pos e']; exact ⟨h.1, h.2.1, h.2.2.1, r⟩
      · have e' : ¬ q.1 = k := h.1 ▸ e
        simp only [if_neg e, if_neg e']; exact h
  · exact Paired.snoc kv ⟨rfl, hd, hk, r⟩
end
end Mm
namespace Mm
open PySem L2 PySem.Spec PyProof.Rows
inductive AllB {α β : Type} (E : α → β → Bool → Prop) : List α → List β → List Bool → Prop
  | nil : AllB E [] [] []
  | cons {x : α} {y : β} {k : Bool} {xs : List α} {ys : List β} {ks : List Bool} : E x y k → AllB E xs ys ks → AllB E (x :: xs) (y :: ys) (k :: ks)
theorem AllB.len {α β : Type} {E : α → β → Bool → Prop} {xs : List α} {ys : List β} {ks : List Bool} (h : AllB E xs ys ks) : xs.length = ys.length ∧ ks.length = xs.length := by
  induction h with
  | nil => exact ⟨rfl, rfl⟩
  | cons _ _ ih => exact ⟨congrArg (· + 1) ih.1, congrArg (· + 1) ih.2⟩
end Mm
namespace Mm
open PySem L2 PySem.Spec PyProof.Rows
section
variable {X : Cx}
def wIntT : RLm := fun ds m Q => match ds with
  | [.str a] => ∃ n, PySem.intText? a = some n ∧ a.length ≤ 640 ∧ Q (.int n) m
  | _ => False
theorem mc_intT : MCall X (.type "int") wIntT := mcall_of call_int_str fun ds vs H m Q Qm hx r q k => by
  unfold wIntT at q; split at q
  · obtain ⟨v, e, x⟩ := reps1 hx
    rw [Rep.str_iff.mp x] at e
    obtain ⟨n, h1, h2, q⟩ := q
    exact ⟨_, n, e, h1, h2, k _ _ _ _ q r Step.refl Rep.int⟩
  · exact q.elim
theorem i_intT {a : Str} {n : Int} {m : Mem} {Q : KM} (h1 : PySem.intText? a = some n) (h2 : a.length ≤ 640) (q : Q (.int n) m) : wIntT [.str a] m Q := ⟨n, h1, h2, q⟩
structure KdD (K : PySem.W.Frag) (w : World) (p : Addr) (kvs : List (Str × Str)) : Prop where
  e : ∃ es n, K.lookup p = some ⟨.type "dict", none, .dict es n, #[]⟩ ∧ PySem.W.KeysLit w.params es.toList
  lo : (p == sysModules) = false
  yes : ∀ x y, kvs.lookup x = some y → ∃ t, PySem.W.nsIn K p x = some (some (.str y t))
  no : ∀ x, kvs.lookup x = none → PySem.W.nsIn K p x = some none
def rInKd (K : PySem.W.Frag) (w : World) (g : Bool → Bool) : R2 := fun x y H Q => ∃ z p kvs, x = .str z ∧ y = .ref p ∧ KdD K w p kvs ∧ Q (.bl (g (kvs.lookup z).isSome)) H
theorem KdD.at_ {K : PySem.W.Frag} {w : World} {p : Addr} {kvs : List (Str × Str)} (D : KdD K w p kvs) (z : Str) : ∃ r, PySem.W.nsIn K p z = some r ∧ r.isSome = (kvs.lookup z).isSome := by
  cases h : kvs.lookup z with
  | none => exact ⟨none, D.no z h, rfl⟩
  | some y => obtain ⟨t, e⟩ := D.yes z y h; exact ⟨_, e, rfl⟩
theorem op_notinKd : OpR X (compareOp .NotIn) (rInKd X.K X.w fun b => !b) := by
  rintro pins s σ H x y v u Q I rx ry ⟨z, p, kvs, rfl, rfl, D, q⟩
  obtain ⟨t, rfl⟩ := (show ∃ t, v = Value.str z t from rx)
  cases (show u = Value.ref p from ry)
  obtain ⟨es, n, hl, hk⟩ := D.e
  obtain ⟨r, hr, hs⟩ := D.at_ z
  refine wpAny_notIn_of (strKind_is X.prog X.w z t) D.lo (PySem.W.mapOf_K (prog := X.prog) (w := X.w) I.kIn hl hk) ?_
  rw [PySem.W.find_K hl hr, hs]
  exact ⟨.bl _, H, I.tok _, rfl, q⟩
def wInKd (K : PySem.W.Frag) (w : World) (g : Bool → Bool) : R2m := fun x y m Q => ∃ z p kvs, x = .str z ∧ y = .ref p ∧ KdD K w p kvs ∧ Q (.bl (g (kvs.lookup z).isSome)) m
theorem mo_notinKd : MOp X (compareOp .NotIn) (wInKd X.K X.w fun b => !b) := mop_of op_notinKd fun x y v w H m Q Qm hx hy r q k => by
  obtain ⟨z, p, kvs, rfl, rfl, D, q⟩ := q
  exact ⟨z, p, kvs, Rep.str_iff.mp hx, Rep.ref_iff.mp hy, D, k _ _ _ _ q r Step.refl Rep.bl⟩
theorem i_inKd {K : PySem.W.Frag} {w : World} {g : Bool → Bool} {z : Str} {p : Addr} {kvs : List (Str × Str)} {m : Mem} {Q : KM} (D : KdD K w p kvs) (q : Q (.bl (g (kvs.lookup z).isSome)) m) : wInKd K w g (.str z) (.ref p) m Q := ⟨z, p, kvs, rfl, rfl, D, q⟩
def wSubKd (K : PySem.W.Frag) (w : World) : R2m := fun x y m Q => ∃ z p kvs v, x = .ref p ∧ y = .str z ∧ KdD K w p kvs ∧ kvs.lookup z = some v ∧ Q (.str v) m
theorem mi_subKd : MIx X (wSubKd X.K X.w) := mix_of ix_kdict fun x y v w H m Q Qm hx hy r q k => by
  obtain ⟨z, p, kvs, u, rfl, rfl, D, hv, q⟩ := q
  obtain ⟨es, n, hl, hk⟩ := D.e
  obtain ⟨t, e⟩ := D.yes z u hv
  exact ⟨p, z, .str u, Rep.ref_iff.mp hx, Rep.str_iff.mp hy, ⟨es, n, _, hl, hk, e, ⟨t, rfl⟩⟩, k _ _ _ _ q r Step.refl Rep.str⟩
theorem i_subKd {K : PySem.W.Frag} {w : World} {z u : Str} {p : Addr} {kvs : List (Str × Str)} {m : Mem} {Q : KM} (D : KdD K w p kvs) (h : kvs.lookup z = some u) (q : Q (.str u) m) : wSubKd K w (.ref p) (.str z) m Q := ⟨z, p, kvs, u, rfl, rfl, D, h, q⟩
end
inductive EsOk : List DictEntry → List (Str × Str) → Prop
  | nil : EsOk [] []
  | cons {h : Int} {x y : Str} {t u : Tok} {es : List DictEntry} {kvs : List (Str × Str)} : EsOk es kvs → EsOk (⟨h, .str x t, .str y u⟩ :: es) ((x, y) :: kvs)
theorem EsOk.find {es : List DictEntry} {kvs : List (Str × Str)} (h : EsOk es kvs) (z : Str) : (∀ y, kvs.lookup z = some y → ∃ e t, es.find? (·.key.isStr z) = some e ∧ e.val = .str y t) ∧ (kvs.lookup z = none → es.find? (·.key.isStr z) = none) ∧ es.any (·.refKey) = false := by
  induction h with
  | nil => exact ⟨(fun y e => nomatch e), fun _ => rfl, rfl⟩
  | @cons h x y t u es kvs _ ih =>
    obtain ⟨i1, i2, i3⟩ := ih
    by_cases c : z = x
    · subst c
      have e1 : List.lookup z ((z, y) :: kvs) = some y := by simp [List.lookup]
      have e2 : ((Value.str z t).isStr z) = true := by simp [Value.isStr]
      refine ⟨fun y' e => ?_, fun e => ?_, ?_⟩
      · rw [e1] at e
        cases e
        exact ⟨_, u, by rw [List.find?_cons_of_pos (by exact e2)], rfl⟩
      · rw [e1] at e; cases e
      · rw [List.any_cons, i3]; rfl
    · have e1 : List.lookup z ((x, y) :: kvs) = kvs.lookup z := by
        rw [List.lookup_cons]
        have : (z == x) = false := by simpa using c
        rw [this]
      have e2 : ((Value.str x t).isStr z) = false := by
        simp [Value.isStr]; exact fun e => c e.symm
      refine ⟨fun y' e => ?_, fun e => ?_, ?_⟩
      · rw [e1] at e
        rw [List.find?_cons_of_neg (by rw [show (DictEntry.mk h (.str x t) (.str y u)).key = .str x t from rfl, e2]; exact Bool.false_ne_true)]
        exact i1 y' e
      · rw [e1] at e
        rw [List.find?_cons_of_neg (by rw [show (DictEntry.mk h (.str x t) (.str y u)).key = .str x t from rfl, e2]; exact Bool.false_ne_true)]
        exact i2 e
      · rw [List.any_cons, i3]; rfl
theorem KdD.of {K : PySem.W.Frag} {w : World} {p : Addr} {es : Array DictEntry} {n : Nat} {kvs : List (Str × Str)} (hl : K.lookup p = some ⟨.type "dict", none, .dict es n, #[]⟩) (hk : PySem.W.KeysLit w.params es.toList) (lo : (p == sysModules) = false) (h : EsOk es.toList kvs) : KdD K w p kvs := by
  refine ⟨⟨es, n, hl, hk⟩, lo, fun x y e => ?_, fun x e => ?_⟩
  · obtain ⟨d, t, h1, h2⟩ := (h.find x).1 y e
    refine ⟨t, ?_⟩
    unfold PySem.W.nsIn
    rw [hl]
    dsimp only
    rw [h1, ← h2]
  · have h1 := (h.find x).2.1 e
    have h2 := (h.find x).2.2
    unfold PySem.W.nsIn
    rw [hl]
    dsimp only
    rw [h1, h2]
    rfl
end Mm
namespace Mm
open PySem PySem.Spec L2 HotX
open PyProof.Rows (envOfC AllBare)
def Args0 (t : Addr) (o : Obj) : Prop := ∀ vs : Array Value, o.data = .fields vs → vs[0]? = some (.ref t)
theorem steady_args {t : Addr} : PXN.Steady1 (Args0 t) := fun o v h => by
  obtain ⟨c, d, dt, sl⟩ := o
  cases dt with
  | fields vs0 =>
    intro vs e
    have e2 : vs0.setIfInBounds 1 v = vs := Data.fields.inj e
    have e3 : (vs0.setIfInBounds 1 v)[0]? = vs0[0]? := by
      first
      | exact Array.getElem?_setIfInBounds_ne (by decide)
      | simp [Array.getElem?_setIfInBounds]
    rw [← e2, e3]
    exact h vs0 rfl
  | _ =>
    intro vs e
    first
    | exact Data.noConfusion e
    | cases e
def Za (cls : Value) (d : Option Addr) (t : Addr) : Obj → Prop := fun o => L2N.Zn cls d o ∧ Args0 t o
theorem Za.steady {cls : Value} {d : Option Addr} {t : Addr} : PXN.Steady1 (Za cls d t) := fun o v h => ⟨L2N.Zn.steady o v h.1, steady_args o v h.2⟩
def TextAt (h : Heap) (t : Addr) : Prop := ∃ (m : Str) (tk : Tok) (o : Obj) (n : Nat), h.get? t = some o ∧ o.cls = .type "tuple" ∧ o.data = .seq [Value.str m tk].toArray n
theorem TextAt.keeps {h h' : Heap} {t : Addr} (x : TextAt h t) (k : h.StaysIn h') : TextAt h' t := by
  obtain ⟨m, tk, o, n, e, r⟩ := x
  exact ⟨m, tk, o, n, k _ _ e, r⟩
def XEA (X : Cx) (W : WX) (u : Value) (s' : Shared) : Prop :=
  ∃ (a : Addr) (B : Heap) (sI : Shared) (pins : List (Addr × Obj)) (σ : L2.St) (H : Hp) (cls : Value) (d : Option Addr) (t : Addr),
    u = .ref a ∧ Inv X pins σ H sI ∧ (∀ b o, sI.heap.get? b = some o → b ∉ frs X.stack → B.get? b = some o) ∧ sI.heap.UpToSlots s'.heap ∧
      Sky B X.stack a (Za cls d t) X.env.locals s'.heap ∧ H a = none ∧ s'.os = sI.os ∧ AllBare s'.gens ∧ W cls d σ H ∧ TextAt B t ∧ H t = none
def CXA (P : Program) (w : World) (outer : List Env) (H : Hp) (s : Shared) (E : XK) (u : Value) (s' : Shared) : Prop :=
  ∃ (a : Addr) (B : Heap) (H' : Hp) (cls : Value) (d : Option Addr) (t : Addr), u = .ref a ∧ HandSPX.FlyingZ B outer a (Za cls d t) s'.heap ∧ HOk P w H' B ∧ UB (frs outer) H H' s.heap B s'.heap ∧ H' a = none ∧ s'.os = s.os ∧ AllBare s'.gens ∧ E cls d H' ∧
    TextAt B t ∧ H' t = none
theorem CXA.weak {P : Program} {w : World} {outer : List Env} {H : Hp} {s s' : Shared} {E : XK} {u : Value} (x : CXA P w outer H s E u s') : L2.CX P w outer H s E u s' := by
  obtain ⟨a, B, H', cls, d, t, e, fl, hok, ub, na, os, ag, hE, _⟩ := x
  exact ⟨a, B, H', cls, d, e, L2H.flyingZ_imp (fun _ z => z.1.zc) fl, hok, ub, na, os, ag, hE⟩
section
variable {X : Cx} {pins : List (Addr × Obj)} {σ : L2.St} {H : Hp} {sI s s' : Shared} {B : Heap} {W : WX} {E : XK}
theorem XEA.new {a t : Addr} {oe : Obj} {vs : Array Value} {cls : Value} {d : Option Addr} (I : Inv X pins σ H sI) (k : ∀ b o, sI.heap.get? b = some o → s'.heap.get? b = some o) (hne : sI.heap.get? a = none) (he : s'.heap.get? a = some oe)
    (hz : Za cls d t oe) (hd : oe.data = .fields vs) (h1 : vs[1]? = some .none) (na : H a = none) (os : s'.os = sI.os) (ag : AllBare s'.gens) (w : W cls d σ H) (tx : TextAt s'.heap t) (tn : sI.heap.get? t = none) (tH : H t = none) : XEA X W (.ref a) s' := by
  have fr : ∀ b, b ∈ frs X.stack → ∃ o, sI.heap.get? b = some o := fun b hb => by
    obtain ⟨_, o', e', hd⟩ := I.stack.mem hb
    exact ⟨o', e'⟩
  have mm : ∀ b, b ∉ frs X.stack → b ≠ a → b ∉ a :: frs X.stack := fun b h1 h2 hm => by
    rcases List.mem_cons.mp hm with z | z
    · exact h2 z
    · exact h1 z
  refine ⟨a, PySem.W.hideAll s'.heap (a :: frs X.stack), sI, pins, σ, H, cls, d, t, rfl, I, fun b o e hb => PySem.W.hideAll_get _ (k b o e) (mm b hb fun z => by rw [z, hne] at e; cases e), Heap.UpToSlots.of_keeps k,
    .inl ⟨fun b o e => PySem.W.of_hideAll _ e, PySem.W.hideAll_none _ List.mem_cons_self, ?_, oe, vs, he, hz, hd, h1⟩, na, os, ag, w, ?_, tH⟩
  · exact Heap.FunFrames.of_keeps (fun b o e _ => ⟨o, k b o e, rfl⟩) (funFrames_none I.stack fun b hb => PySem.W.hideAll_none _ (List.mem_cons_of_mem _ hb))
  · obtain ⟨m, tk, o, n, e, hc, hdt⟩ := tx
    refine ⟨m, tk, o, n, PySem.W.hideAll_get _ e (mm t (fun hb => ?_) fun z => ?_), hc, hdt⟩
    · obtain ⟨o', q⟩ := fr t hb
      rw [tn] at q; cases q
    · rw [z, he] at e; cases e
      rw [hd] at hdt; cases hdt
end
def MkPA (X : Cx) (pins : List (Addr × Obj)) (σ : L2.St) (Q : XK) (u : Value) (s' : Shared) : Prop :=
  ∃ (a : Addr) (oe : Obj) (vs : Array Value) (sI : Shared) (H' : Hp) (cls : Value) (d : Option Addr) (t : Addr), u = .ref a ∧ Inv X pins σ H' sI ∧ (∀ b o, sI.heap.get? b = some o → s'.heap.get? b = some o) ∧ sI.heap.get? a = none ∧ s'.heap.get? a = some oe ∧
    Za cls d t oe ∧ oe.data = .fields vs ∧ vs[1]? = some .none ∧ H' a = none ∧ s'.os = sI.os ∧ AllBare s'.gens ∧ Raises X cls ∧ Q cls d H' ∧ TextAt s'.heap t ∧ sI.heap.get? t = none ∧ H' t = none
def PMkA (X : Cx) (e : Expr) (t : L2.St → Hp → XK → Prop) : Prop :=
  ∀ (pins : List (Addr × Obj)) (s : Shared) (σ : L2.St) (H : Hp) (Q : XK), Inv X pins σ H s → t σ H Q → wpAny (model X.prog X.w) X.A (eval e X.env) (MkPA X pins σ Q) X.xe s
theorem mkA_of {X : Cx} {pins : List (Addr × Obj)} {σ : L2.St} {H : Hp} {Q : XK} {s : Shared} {h' : Heap} {e : Addr} {cls : Value} {m : Str} {tk : Tok} (I : Inv X pins σ H s) (hx : Heap.MadeExcOf s.heap h' e cls [.str m tk]) (r : Raises X cls) (q : Q cls none H) :
    MkPA X pins σ Q (.ref e) { s with heap := h' } := by
  obtain ⟨t, he, htn, ht⟩ := hx.there
  exact ⟨e, _, _, s, H, cls, none, t, rfl, I, hx.keeps, hx.new, he, ⟨⟨rfl, rfl, fun vs e => by cases e; rfl⟩, fun vs e => by cases e; rfl⟩, rfl, rfl, I.hok.gone hx.new, rfl, I.bare, r, q, ⟨m, tk, _, _, ht, rfl, rfl⟩, htn, I.hok.gone htn⟩
section
variable {X : Cx} {C : Addr} {bmB : List Value} {B newId initId : String}
theorem pmkA_own {x m : Str} {j : Nat} {p p2 pos : Pos} (F : ExcBaseFacts B newId initId bmB) (q : PySem.W.excIn X.K C bmB newId = true) (gC : X.mg x = some (.ref C)) (kC : PySem.W.keepIn X.K (.ref C) = true) (r : Raises X (.ref C)) (hg : Gl X x)
    (hdb : (x == ("__debug__" : Str)) = false := by decide) : PMkA X (.Call (.Name x p) [.Constant (.str m) j p2] [] pos) (fun _ H Q => Q (.ref C) none H) := by
  intro pins s σ H Q I h
  refine wpAny_Call_Name_kw (ld_glob I hg gC ?_ hdb)
  have ha : PA X [.Constant (.str m) j p2] (tCons (tC (.str m)) tNil) := pa_cons pe_str pa_nil
  refine PySem.W.callWith_K (h₀ := X.base) I.ok.mod.kin kC (thn (ha.run pos pins s σ H (fun vs H1 => vs = [V.str m] ∧ H = H1) I ⟨rfl, rfl⟩) fun us s1 hh => ?_)
  obtain ⟨vs, H1, I1, r1, ev, eH⟩ := hh
  subst ev
  rw [← eH] at I1
  refine ⟨I1.kIn, ?_⟩
  cases r1 with
  | cons ru rn =>
    rename_i u us'
    cases rn
    obtain ⟨tk, ru⟩ := ru
    subst ru
    show wpAny _ _ (call (.ref C) [.str m tk]) _ _ _
    obtain ⟨bm, N, nm, qn, bs, hdct, sn, sub, ab, col, dd, k0, k1, k2, k3, k5, mN, hC, hN, hni, T⟩ := exc_obj I1.kIn q
    refine wpAny_call_exc_subT F T hC hN hni (fun h' e hm => ?_) (by show 1 ≤ sizeLine; rw [sizeLine_eq]; omega)
    exact mkA_of I1 hm r h
end
end Mm
namespace Mm
open PySem PySem.Spec L2 HotX
open PyProof.Rows (envOfC AllBare)
abbrev suiteY (X : Cx) (a : Addr) (pn : List (Addr × Obj)) (xe : Value → Shared → Prop) : Cx := { X with A := X.A.mark (some (.ref a)), calm := false, pn := pn, xe := xe }
section
variable {X : Cx} {pins : List (Addr × Obj)} {σ : L2.St} {H : Hp} {s : Shared}
theorem suiteY_of {a : Addr} {pn pn' : List (Addr × Obj)} {xe : Value → Shared → Prop} (I : Inv (X.suite a pn) pn' σ H s) : Inv (suiteY X a pn xe) pn' σ H s := Inv.unwish (X := suiteY X a pn xe) (E := fun _ _ => False) I
theorem unsuiteY {a : Addr} {q : Addr × Obj} {pn' : List (Addr × Obj)} {xe : Value → Shared → Prop} (I : Inv (suiteY X a (q :: (X.pn ++ pins)) xe) pn' σ H s) (ok : X.Ok) : Inv X pins σ H s :=
  Inv.unsuite (X := X) (a := a) (q := q) (pn' := pn') (show Inv (X.suite a (q :: (X.pn ++ pins))) pn' σ H s from I.wish fun _ _ => False) ok
theorem Inv.unpin {p : Addr × Obj} (I : Inv X (p :: pins) σ H s) : Inv X pins σ H s :=
  ⟨I.ok, I.os, I.bare, I.base, I.loc, I.cell, I.free, I.freeC, fun q hq => I.pin q (by
    rcases List.mem_append.mp hq with h | h
    · exact List.mem_append_left _ h
    · exact List.mem_append_right _ (List.mem_cons_of_mem _ h)), I.hok, I.len⟩
theorem Inv.topin {p : Addr × Obj} (I : Inv X pins σ H s) (h : s.heap.get? p.1 = some p.2 ∧ H p.1 = none ∧ p.1 ≠ X.env.locals ∧ p.1 ∉ X.fs ∧ ∀ v, p.2.data ≠ .cell v) : Inv X (p :: pins) σ H s :=
  ⟨I.ok, I.os, I.bare, I.base, I.loc, I.cell, I.free, I.freeC, fun q hq => by
    rcases List.mem_append.mp hq with z | z
    · exact I.pin q (List.mem_append_left _ z)
    · rcases List.mem_cons.mp z with e | z
      · rw [e]; exact h
      · exact I.pin q (List.mem_append_right _ z), I.hok, I.len⟩
theorem Inv.gone {i : Nat} {n : Str} {h' : Heap} {v : Option Value} {tk : Nat} (I : Inv X pins σ H s) (hN : X.N.Nodup) (hi : X.N[i]? = some n)
    {m : Str → Option Value} (hlk : ∀ (i : Nat) (x : Str) (v : V), X.N[i]? = some x → σ[i]? = some (some v) → Vis X.env.scope x → ∃ u, RelV v u ∧ Look X.env s.heap m x u) (hn' : h'.Ns X.env.locals (fun x => if x = n then v else m x)) (hs : ∀ b, b ≠ X.env.locals → h'.get? b = s.heap.get? b) : Inv X pins (σ.set i none) H { s with heap := h', toks := tk } := by
  obtain ⟨oL, _, _, hoL, _⟩ := id hn'
  have neL : ∀ b o, X.s_0.heap.get? b = some o → b ≠ X.env.locals := fun b o e => Nat.ne_of_lt (Nat.lt_of_lt_of_le (Heap.lt_size e) I.ok.above)
  have ic : ∀ {c : Addr} {w : Option Value}, s.heap.IsCell c w → c ≠ X.env.locals → h'.IsCell c w := fun {c w} ⟨o, ho, hd⟩ ne => ⟨o, (hs c ne).trans ho, hd⟩
  refine ⟨I.ok, I.os, I.bare, ⟨fun b o e n hb hx => ?_, fun b o e n hb hx => ?_, I.base.free, fun b o e hx => ?_, I.base.tups, I.base.frzs, I.base.tbls⟩, ⟨_, hn', fun j y v' e1 e2 e3 => ?_⟩, fun y c e => ?_, I.free, I.freeC, fun p hp => ?_, fun b ob e => ?_, by simpa using I.len⟩
  · exact (hs b (neL b o e)).trans (I.base.keep b o e n hb hx)
  · obtain ⟨sl, e1⟩ := I.base.slot b o e n hb hx
    exact ⟨sl, (hs b (neL b o e)).trans e1⟩
  · obtain ⟨o', e1⟩ := I.base.there b o e hx
    exact ⟨o', (hs b (neL b o e)).trans e1⟩
  · by_cases hj : j = i
    · subst hj
      by_cases hlt : j < σ.length
      · rw [List.getElem?_set_self hlt] at e2; cases e2
      · rw [List.getElem?_eq_none (by simpa using hlt)] at e2; cases e2
    · rw [List.getElem?_set_ne (Ne.symm hj)] at e2
      obtain ⟨u', r', q⟩ := hlk j y v' e1 e2 e3
      refine ⟨u', r', ?_⟩
      rcases q with ⟨k, e⟩ | ⟨k, c, e, z⟩
      · have ny : y ≠ n := fun e => hj (nodup_ix hN e1 (e ▸ hi))
        exact .inl ⟨k, (if_neg ny).trans e⟩
      · exact .inr ⟨k, c, e, ic z (I.cne y c e)⟩
  · obtain ⟨w', z⟩ := I.cell y c e
    exact ⟨w', ic z (I.cne y c e)⟩
  · obtain ⟨e, n, ne, nf, d⟩ := I.pin p hp
    exact ⟨(hs p.1 ne).trans e, n, ne, nf, d⟩
  · refine (I.hok b ob e).stay (fun c w' hc q => (hs c ?_).trans q) (fun _ q => q) fun _ _ q => q
    intro z
    subst z
    rcases hc with hc | hc
    · rw [← hc, I.free] at e; cases e
    · rw [I.free] at hc; cases hc
end
theorem funFrames_but {h h' base : Heap} {L : Addr} {m : Str → Option Value} (hs : ∀ b, b ≠ L → h'.get? b = h.get? b) (hn : h'.Ns L m) : ∀ {l : List Env}, h.FunFrames base l → h'.FunFrames base l
  | [], _ => trivial
  | _ :: _, ⟨hk, ⟨L', o, hf, hb, ho, hd⟩, hr⟩ => by
    refine ⟨hk, ?_, funFrames_but hs hn hr⟩
    by_cases q : L' = L
    · obtain ⟨o', es, ep, ho', hd', _⟩ := hn
      exact ⟨L', o', hf, hb, by rw [q]; exact ho', fun vs z => by rw [hd'] at z; cases z⟩
    · exact ⟨L', o, hf, hb, (hs L' q).trans ho, hd⟩
theorem tracedZ_but {h h' base : Heap} {e L : Addr} {Z : Obj → Prop} {fl : Value} {m : Str → Option Value} (x : HandSPX.TracedZ h base e Z fl) (hn : h.Ns L m) (hs : ∀ b, b ≠ L → h'.get? b = h.get? b) : HandSPX.TracedZ h' base e Z fl := by
  obtain ⟨oe, vs, T, oT, ts, he, hz, hd, h1, hnT, hTe, hT, hdT, h3⟩ := x
  obtain ⟨oL, es, ep, hoL, hdL, _⟩ := hn
  have neE : e ≠ L := fun q => by
    rw [q, hoL] at he
    have z := Option.some.inj he
    rw [← z, hdL] at hd
    cases hd
  have neT : T ≠ L := fun q => by
    rw [q, hoL] at hT
    have z := Option.some.inj hT
    rw [← z, hdL] at hdT
    cases hdT
  exact ⟨oe, vs, T, oT, ts, (hs e neE).trans he, hz, hd, h1, hnT, hTe, (hs T neT).trans hT, hdT, h3⟩
end Mm
namespace Mm
open PySem PySem.Spec L2 HotX
open PyProof.Rows (envOfC AllBare)
def HeldT (X : Cx) (C a : Addr) : Prop := ∃ (oe : Obj) (t : Addr) (ot : Obj) (vs : Array Value) (m : Str) (tk : Tok) (k : Nat), (a, oe) ∈ X.pn ∧ (t, ot) ∈ X.pn ∧ oe.cls = .ref C ∧ oe.data = .fields vs ∧ vs[0]? = some (.ref t) ∧ ot.cls = .type "tuple" ∧ ot.data = .seq [Value.str m tk].toArray k
end Mm
namespace Mm
open PySem L2 HotX
open PyProof.Rows (envOfC)
section
variable {X : Cx} {B : Bs} {E' : XK} {Em : XM} {C : Addr}
variable {k : Nat} {f : Addr} {fd : FuncData} {ps : List Str} {sp : SpM} {Es : XS} {x n : Str} {e : Expr} {es : List Expr} {la : TAm} {pos p pos' np : Pos} {W : WX}
def wStrE (a : Addr) : RLm := fun ds m Q => match ds with
  | [.ref a'] => a' = a ∧ ∀ t, Q (.str t) m
  | _ => False
theorem mc_strE {a : Addr} (T : HeldT X C a) (hs : PySem.W.findIn X.K (.ref C) "__str__" = some (some (.builtin "BaseException.__str__"))) (hB : PySem.W.subIn X.K (.ref C) (.type "BaseException") = some true) (hu : X.A.units + 2 < cLine) : MCall X (.type "str") (wStrE a) :=
  mcall_of (r0 := fun xs H Q => xs = [.ref a] ∧ ∀ t, Q (.str t) H) (fun pins s σ H xs us Q I r h => by
    obtain ⟨rfl, q⟩ := h
    obtain ⟨oe, t, ot, vs, m, tk, k, p1, p2, c1, d1, v0, c2, d2⟩ := T
    cases r with
    | cons rx rr =>
      cases rr
      cases rx
      have g1 := (I.pin _ (List.mem_append_left _ p1)).1
      have g2 := (I.pin _ (List.mem_append_left _ p2)).1
      exact PySem.P.str_of_C_one hu ⟨I.kIn, oe, vs, g1, c1, d1, v0⟩ ⟨ot, k, g2, c2, d2⟩ hs hB ⟨V.str m, H, I, ⟨tk, rfl⟩, q m⟩)
    fun ds vs H m Q Qm hx r q k => by
      unfold wStrE at q; split at q
      · obtain ⟨v, e, x⟩ := reps1 hx
        obtain ⟨rfl, q⟩ := q
        rw [Rep.ref_iff.mp x] at e
        exact ⟨e, fun t => k _ _ _ _ (q t) r Step.refl Rep.str⟩
      · exact q.elim
end
section
variable {ρ : StM} {m : Mem} {E : EndsM} {pa : TEm}
theorem i_strE {a : Addr} {Q : KM} (h : ∀ t, Q (.str t) m) : wStrE a [.ref a] m Q := ⟨rfl, h⟩
end
end Mm
namespace Mm
open PySem PySem.Spec PyProof.Rows L2 HotX
abbrev Hl := List (Addr × Obj)
def hdV : Hl → Value
  | [] => .none
  | p :: _ => .ref p.1
def hdO : Hl → Option Value
  | [] => none
  | p :: _ => some (.ref p.1)
def Link : Hl → Prop
  | [] => True
  | p :: l => (∃ vs : Array Value, p.2.data = .fields vs ∧ vs[2]? = some (hdV l)) ∧ Link l
def Hand (A : Around) (l : Hl) : Prop := A.handled = hdO l ∧ Link l
def Stand (h : Heap) (l : Hl) : Prop := ∀ p ∈ l, h.get? p.1 = some p.2
theorem Stand.keeps {h h' : Heap} {l : Hl} (x : Stand h l) (k : ∀ b o, h.get? b = some o → h'.get? b = some o) : Stand h' l := fun p hp => k _ _ (x p hp)
theorem Stand.but {h h' : Heap} {l : Hl} {it : Addr} (x : Stand h l) (ne : ∀ p ∈ l, p.1 ≠ it) (k : ∀ b o, b ≠ it → h.get? b = some o → h'.get? b = some o) : Stand h' l := fun p hp => k _ _ (ne p hp) (x p hp)
theorem hdV_bne {l : Hl} {a : Addr} (h : ∀ p ∈ l, p.1 ≠ a) : (hdV l == Value.ref a) = false := by
  cases l with
  | nil => rfl
  | cons p l => exact beq_eq_false_iff_ne.mpr fun e => h p (.head _) (Value.ref.inj e)
section
variable {prog : Program} {w : World} {A : Around} {E : Value → Shared → Prop} {s : Shared}
theorem unchain_L {a : Addr} {Q : Value → Shared → Prop} (q : Q .none s) : ∀ (l l' : Hl) (p p' : Addr × Obj) (t : Bool), Link (p :: l) → Stand s.heap (p :: l) → Link (p' :: l') → Stand s.heap (p' :: l') → l.length ≤ l'.length → (∀ r ∈ p :: l, r.1 ≠ a) →
    codeAny (model prog w) A (.builtin "proto.unchain" ⟨[.ref a, .ref p.1, .ref p'.1, .bool t], []⟩) (fun r s' => match r with | .ok (.ret v) => Q v s' | .ok _ => False | .error e => E e s') s
  | [], l', p, p', t, L, S, L', S', hle, hne => by
    obtain ⟨⟨vs, d, c⟩, _⟩ := L
    refine codeAny_builtin HotX.entry_unchain ?_
    show wpAny _ _ (field (.ref p.1) 2 >>= _) _ _ s
    refine wpAny_bind (wpAny_field (S p (.head _)) d c ?_)
    rw [if_pos (show (hdV [] == Value.none) = true from rfl)]
    first
    | exact wpAny_bind (wpAny_pure (wpAny_pure q))
    | exact wpAny_pure q
  | p1 :: l, l', p, p', t, L, S, L', S', hle, hne => by
    obtain ⟨⟨vs, d, c⟩, L1⟩ := L
    have S1 : Stand s.heap (p1 :: l) := fun r hr => S r (.tail _ hr)
    have hne1 : ∀ r ∈ p1 :: l, r.1 ≠ a := fun r hr => hne r (.tail _ hr)
    refine codeAny_builtin HotX.entry_unchain ?_
    show wpAny _ _ (field (.ref p.1) 2 >>= _) _ _ s
    refine wpAny_bind (wpAny_field (S p (.head _)) d c ?_)
    rw [if_neg (show ¬ ((hdV (p1 :: l) == Value.none) = true) from Bool.false_ne_true)]
    rw [if_neg (show ¬ ((hdV (p1 :: l) == Value.ref a) = true) from by rw [hdV_bne hne1]; exact Bool.false_ne_true)]
    by_cases hs : (hdV (p1 :: l) == Value.ref p'.1) = true
    · rw [if_pos hs]
      refine wpAny_bind (wpAny_rule ?_)
      first
      | exact wpAny_bind (wpAny_pure (wpAny_pure q))
      | exact wpAny_pure q
    · rw [if_neg hs]
      cases t with
      | false =>
        refine wpAny_pure ?_
        exact ⟨plainId_quiet (by kernel_rfl) _, unchain_L q l l' p1 p' true L1 S1 L' S' (by simp at hle ⊢; omega) hne1⟩
      | true =>
        match l', L', S', hle with
        | [], _, _, hle => simp at hle
        | p2 :: l2, L', S', hle =>
          obtain ⟨⟨vs2, d2, c2⟩, L2⟩ := L'
          refine wpAny_bind ?_
          refine wpAny_field (S' p' (.head _)) d2 c2 ?_
          refine wpAny_pure ?_
          exact ⟨plainId_quiet (by kernel_rfl) _, unchain_L q l l2 p1 p2 false L1 S1 L2 (fun r hr => S' r (.tail _ hr)) (by simp at hle ⊢; omega) hne1⟩
def Rsd (h : Heap) (a : Addr) (oe : Obj) (vs : Array Value) (l : Hl) (h' : Heap) : Prop :=
  (∃ oe' vs', h'.get? a = some oe' ∧ oe'.cls = oe.cls ∧ oe'.dict = oe.dict ∧ oe'.data = .fields vs' ∧ vs'[0]? = vs[0]? ∧ vs'[1]? = vs[1]? ∧ vs'[2]? = some (hdV l)) ∧ ∀ b, b ≠ a → h'.get? b = h.get? b
theorem set2 {vs : Array Value} {j : Nat} {x : Value} (h : 2 ≠ j) : (vs.setIfInBounds 2 x)[j]? = vs[j]? := by
  first
  | exact Array.getElem?_setIfInBounds_ne h
  | simp [Array.getElem?_setIfInBounds, h]
theorem raiseNew_L {α : Type} {a : Addr} {oe : Obj} {vs : Array Value} {l : Hl} {Q : α → Shared → Prop} (hot : Hand A l) (st : Stand s.heap l) (hne : ∀ p ∈ l, p.1 ≠ a) (ha : s.heap.get? a = some oe) (da : oe.data = .fields vs) (h2 : vs[2]? = some .none)
    (hE : ∀ h', Rsd s.heap a oe vs l h' → E (.ref a) { s with heap := h' }) : wpAny (model prog w) A (raiseNew (.ref a) : Sem α) Q E s := by
  obtain ⟨hh, L⟩ := hot
  have hi : 2 < vs.size := (Array.getElem?_eq_some_iff.mp h2).1
  unfold raiseNew
  refine wpAny_bind (wpAny_handled ?_)
  rw [hh]
  cases l with
  | nil =>
    have e : E (.ref a) s := hE s.heap ⟨⟨oe, vs, ha, rfl, rfl, da, rfl, rfl, h2⟩, fun _ _ => rfl⟩
    first
    | exact wpAny_bind (wpAny_pure (wpAny_throw e))
    | exact wpAny_throw e
  | cons p l =>
    have hb : (Value.ref p.1 != Value.ref a) = true := ref_bne (hne p (.head _))
    have go : E (.ref a) { s with heap := s.heap.update a (Obj.mapFields (·.setIfInBounds 2 (.ref p.1))) } := by
      have d' := Obj.data_mapFields da (·.setIfInBounds 2 (.ref p.1))
      refine hE _ ⟨⟨_, _, Heap.get?_update_self _ ha (Obj.isFreed_of_fields d'), Obj.cls_mapFields .., HandSPX.dict_mapFields .., d', set2 (by decide), set2 (by decide), ?_⟩, fun b nb => Heap.get?_update_other _ _ (Ne.symm nb)⟩
      show (vs.setIfInBounds 2 (Value.ref p.1))[2]? = _
      simp [Array.getElem?_setIfInBounds, hi]
      rfl
    have un : ∀ {Q' : Value → Shared → Prop}, Q' .none s → wpAny (model prog w) A (holding [Value.ref a] (runValue (.builtin "proto.unchain" ⟨[.ref a, .ref p.1, .ref p.1, .bool false], []⟩))) Q' E s :=
      fun {Q'} q => wpAny_holding (wpAny_runValue (unchain_L q l l p p false L st L st (Nat.le_refl _) hne))
    first
    | (show wpAny _ _ (if (Value.ref p.1 != Value.ref a) = true then _ else _) _ _ _
       rw [if_pos hb]
       first
       | exact wpAny_bind (un (wpAny_bind (chained ha da hi (wpAny_throw go))))
       | exact wpAny_bind (wpAny_bind (un (chained ha da hi (wpAny_throw go)))))
    | (refine wpAny_bind ?_
       show wpAny _ _ (if (Value.ref p.1 != Value.ref a) = true then _ else _) _ _ _
       rw [if_pos hb]
       exact wpAny_bind (un (chained ha da hi (wpAny_throw go))))
theorem stop_L {α : Type} {l : Hl} {Q : α → Shared → Prop} (hot : Hand A l) (st : Stand s.heap l) (hE : ∀ a h', (∀ b o, s.heap.get? b = some o → h'.get? b = some o) → Shared.TypeIs { s with heap := h' } (.ref a) "StopIteration" → E (.ref a) { s with heap := h' }) :
    wpAny (model prog w) A (newExc (.type "StopIteration") [] >>= fun e => (raiseNew e : Sem α)) Q E s := by
  simp only [newExc, newTuple]
  refine wpAny_bind (wpAny_bind (wpAny_newObj_type ?_ (by size_fits)))
  refine wpAny_bind (m := firstArgMember _ _) (wpAny_of_eq (a := Value.none) (by first | rfl | (simp only [firstArgMember]; rfl)) ?_)
  refine wpAny_newObj_type ?_ (by size_fits)
  refine raiseNew_L hot ((st.keeps fun b o e => Heap.get?_push_of_some _ e).keeps fun b o e => Heap.get?_push_of_some _ e) (fun p hp => Nat.ne_of_lt (Heap.lt_size (Heap.get?_push_of_some _ (st p hp)))) (Heap.get?_push_size _ rfl) rfl rfl fun h' r => ?_
  obtain ⟨⟨oe', vs', e', c', _⟩, k⟩ := r
  refine hE _ h' (fun b o e => ?_) ⟨oe', e', c'⟩
  have e1 := Heap.get?_push_of_some { cls := .type "tuple", data := .seq ([] : List Value).toArray } e
  rw [k b (Nat.ne_of_lt (Heap.lt_size e1))]
  exact Heap.get?_push_of_some _ e1
def EndsAt (it : Addr) (s : Shared) (Q : Option Value → Shared → Prop) : Prop := ∀ h', (∀ b o, b ≠ it → s.heap.get? b = some o → h'.get? b = some o) → Q none { s with heap := h' }
theorem Stand.upd {l : Hl} {h : Heap} {it : Addr} {f : Obj → Obj} (st : Stand h l) (ne : ∀ p ∈ l, p.1 ≠ it) : Stand (h.update it f) l := st.but ne fun b o nb e => by rw [Heap.get?_update_other _ _ (Ne.symm nb)]; exact e
theorem ends_list {it la : Addr} {l : Hl} {i : Nat} {items} {Q : Option Value → Shared → Prop} (hot : Hand A l) (st : Stand s.heap l) (ne : ∀ p ∈ l, p.1 ≠ it) (hit : s.heap.IsListIter it la i) (hl : s.heap.IsList la items) (hx : items[i]? = none) (hQ : EndsAt it s Q) : wpAny (model prog w) A (pyNext (.ref it)) Q E s := by
  obtain ⟨o, ho, hc, hd⟩ := id hit
  obtain ⟨ol, hol, _, nl, hdl⟩ := hl
  unfold pyNext
  refine wpAny_bind (wpAny_attempt (wpAny_callSpecial?_slot (name := Str.ofString "__next__") hit.typeIs slot_listiter_next
    (wpAny_call_entry slot_listiter_next hit.typeIs entry_listiter_next ?_ (args_listiter_next _))))
  show wpAny _ _ (field (.ref it) 0 >>= _) _ _ s
  refine wpAny_bind (wpAny_field ho hd (x := .ref la) rfl ?_)
  show wpAny _ _ (if (Value.ref la == Value.none) = true then _ else _) _ _ s
  rw [if_neg (show ¬ ((Value.ref la == Value.none) = true) from Bool.false_ne_true)]
  show wpAny _ _ (field (.ref it) 1 >>= _) _ _ s
  refine wpAny_bind (wpAny_field ho hd (x := .int i 0) rfl ?_)
  show wpAny _ _ (seqItems? (.ref la) >>= _) _ _ s
  refine wpAny_bind (wpAny_seqItems hol hdl ?_)
  simp only [Int.toNat_natCast, hx]
  refine wpAny_bind (wpAny_rule (wpAny_bind (wpAny_setField ho hd (by simp) ?_)))
  refine stop_L (A := A.in1) hot (st.upd ne) fun a h' k t => ?_
  refine wpAny_bind (wpAny_isInstance (T := "StopIteration") (b := true) t isSubtype_stop ?_)
  exact wpAny_pure (hQ _ fun b o nb e => k b o (by rw [Heap.get?_update_other _ _ (Ne.symm nb)]; exact e))
theorem ends_tuple {it t : Addr} {l : Hl} {i : Nat} {items} {Q : Option Value → Shared → Prop} (hot : Hand A l) (st : Stand s.heap l) (ne : ∀ p ∈ l, p.1 ≠ it) (hit : s.heap.IsTupleIter it t i) (ht : s.heap.IsTuple t items) (hx : items[i]? = none) (hQ : EndsAt it s Q) : wpAny (model prog w) A (pyNext (.ref it)) Q E s := by
  obtain ⟨o, ho, hc, hd⟩ := id hit
  obtain ⟨ol, hol, _, nl, hdl⟩ := ht
  unfold pyNext
  refine wpAny_bind (wpAny_attempt (wpAny_callSpecial?_slot (name := Str.ofString "__next__") hit.typeIs F.slot_tuple_iterator_next
    (wpAny_call_entry F.slot_tuple_iterator_next hit.typeIs F.entry_tuple_iterator_next ?_ (F.args_tuple_iterator_next_1 _))))
  show wpAny _ _ (field (.ref it) 0 >>= _) _ _ s
  refine wpAny_bind (wpAny_field ho hd (x := .ref t) rfl ?_)
  show wpAny _ _ (if (Value.ref t == Value.none) = true then _ else _) _ _ s
  rw [if_neg (show ¬ ((Value.ref t == Value.none) = true) from Bool.false_ne_true)]
  show wpAny _ _ (field (.ref it) 1 >>= _) _ _ s
  refine wpAny_bind (wpAny_field ho hd (x := .int i 0) rfl ?_)
  show wpAny _ _ (seqItems? (.ref t) >>= _) _ _ s
  refine wpAny_bind (wpAny_seqItems hol hdl ?_)
  simp only [Int.toNat_natCast, hx]
  refine wpAny_bind (wpAny_rule (wpAny_bind (wpAny_setField ho hd (by simp) ?_)))
  refine stop_L (A := A.in1) hot (st.upd ne) fun a h' k t => ?_
  refine wpAny_bind (wpAny_isInstance (T := "StopIteration") (b := true) t isSubtype_stop ?_)
  exact wpAny_pure (hQ _ fun b o nb e => k b o (by rw [Heap.get?_update_other _ _ (Ne.symm nb)]; exact e))
theorem ends_ascii {it : Addr} {l : Hl} {x : Str} {t : Tok} {i : Nat} {Q : Option Value → Shared → Prop} (hot : Hand A l) (st : Stand s.heap l) (ne : ∀ p ∈ l, p.1 ≠ it) (hit : s.heap.IsStrIter it "str_ascii_iterator" x t i) (hx : x.cps[i]? = none) (hQ : EndsAt it s Q) : wpAny (model prog w) A (pyNext (.ref it)) Q E s := by
  obtain ⟨o, ho, hc, hd⟩ := id hit
  unfold pyNext
  refine wpAny_bind (wpAny_attempt (wpAny_callSpecial?_slot (name := Str.ofString "__next__") hit.typeIs F.slot_str_ascii_iterator_next
    (wpAny_call_entry F.slot_str_ascii_iterator_next hit.typeIs F.entry_str_ascii_iterator_next ?_ (F.args_str_ascii_iterator_next_1 _))))
  show wpAny _ _ (field (.ref it) 0 >>= _) _ _ s
  refine wpAny_bind (wpAny_field ho hd (x := .str x t) rfl ?_)
  show wpAny _ _ (field (.ref it) 1 >>= _) _ _ s
  refine wpAny_bind (wpAny_field ho hd (x := .int i 0) rfl ?_)
  simp only [Int.toNat_natCast, hx]
  refine wpAny_bind (wpAny_rule (wpAny_bind (wpAny_setField ho hd (by simp) (wpAny_bind (wpAny_letGo ?_)))))
  refine stop_L (A := A.in1) hot (st.upd ne) fun a h' k t => ?_
  refine wpAny_bind (wpAny_isInstance (T := "StopIteration") (b := true) t isSubtype_stop ?_)
  exact wpAny_pure (hQ _ fun b o nb e => k b o (by rw [Heap.get?_update_other _ _ (Ne.symm nb)]; exact e))
theorem ends_wide {it : Addr} {l : Hl} {x : Str} {t : Tok} {i : Nat} {Q : Option Value → Shared → Prop} (hot : Hand A l) (st : Stand s.heap l) (ne : ∀ p ∈ l, p.1 ≠ it) (hit : s.heap.IsStrIter it "str_iterator" x t i) (hx : x.cps[i]? = none) (hQ : EndsAt it s Q) : wpAny (model prog w) A (pyNext (.ref it)) Q E s := by
  obtain ⟨o, ho, hc, hd⟩ := id hit
  unfold pyNext
  refine wpAny_bind (wpAny_attempt (wpAny_callSpecial?_slot (name := Str.ofString "__next__") hit.typeIs F.slot_str_iterator_next
    (wpAny_call_entry F.slot_str_iterator_next hit.typeIs F.entry_str_iterator_next ?_ (F.args_str_iterator_next_1 _))))
  show wpAny _ _ (field (.ref it) 0 >>= _) _ _ s
  refine wpAny_bind (wpAny_field ho hd (x := .str x t) rfl ?_)
  show wpAny _ _ (field (.ref it) 1 >>= _) _ _ s
  refine wpAny_bind (wpAny_field ho hd (x := .int i 0) rfl ?_)
  simp only [Int.toNat_natCast, hx]
  refine wpAny_bind (wpAny_rule (wpAny_bind (wpAny_setField ho hd (by simp) (wpAny_bind (wpAny_letGo ?_)))))
  refine stop_L (A := A.in1) hot (st.upd ne) fun a h' k t => ?_
  refine wpAny_bind (wpAny_isInstance (T := "StopIteration") (b := true) t isSubtype_stop ?_)
  exact wpAny_pure (hQ _ fun b o nb e => k b o (by rw [Heap.get?_update_other _ _ (Ne.symm nb)]; exact e))
theorem ends_range {it : Addr} {l : Hl} {x left step : Int} {Q : Option Value → Shared → Prop} (hot : Hand A l) (st : Stand s.heap l) (hit : IsRangeIter s.heap it x left step) (hleft : left ≤ 0)
    (hQ : EndsAt it s Q) : wpAny (model prog w) A (pyNext (.ref it)) Q E s := by
  have hT : s.TypeIs (.ref it) "range_iterator" := ⟨_, hit, rfl⟩
  unfold pyNext
  refine wpAny_bind (wpAny_attempt (wpAny_callSpecial?_slot (name := Str.ofString "__next__") hT F.slot_range_iterator_next
    (wpAny_call_entry F.slot_range_iterator_next hT F.entry_range_iterator_next ?_ (F.args_range_iterator_next_1 _))))
  show wpAny _ _ (field (.ref it) 0 >>= _) _ _ s
  refine wpAny_bind (wpAny_field hit rfl (x := rawInt x) rfl ?_)
  show wpAny _ _ (field (.ref it) 1 >>= _) _ _ s
  refine wpAny_bind (wpAny_field hit rfl (x := rawInt left) rfl ?_)
  show wpAny _ _ (field (.ref it) 2 >>= _) _ _ s
  refine wpAny_bind (wpAny_field hit rfl (x := rawInt step) rfl ?_)
  show wpAny _ _ (if left ≤ 0 then _ else _) _ _ s
  rw [if_pos hleft]
  refine wpAny_bind (wpAny_rule ?_)
  refine wpAny_bind ?_
  refine stop_L (A := A.in1) hot st fun a h' k t => ?_
  refine wpAny_bind (wpAny_isInstance (T := "StopIteration") (b := true) t isSubtype_stop ?_)
  exact wpAny_pure (hQ _ fun b o nb e => k b o e)
end
end Mm
namespace Mm
open PySem PySem.Spec PyProof.Rows L2 HotX
def HC (X : Cx) : Prop := ∃ l : Hl, Hand X.A l ∧ ∀ p ∈ l, p ∈ X.pn
theorem HC.at {X : Cx} {pins : List (Addr × Obj)} {σ : L2.St} {H : Hp} {s : Shared} (c : HC X) (I : Inv X pins σ H s) : ∃ l, Hand X.A l ∧ Stand s.heap l := by
  obtain ⟨l, h, k⟩ := c
  exact ⟨l, h, fun p hp => (I.pin p (List.mem_append_left _ (k p hp))).1⟩
theorem HC.ne {X : Cx} {pins : List (Addr × Obj)} {σ : L2.St} {H : Hp} {s : Shared} {it : Addr} (c : HC X) (I : Inv X pins σ H s) (h : ∀ p ∈ X.pn ++ pins, p.1 ≠ it) : ∃ l, Hand X.A l ∧ Stand s.heap l ∧ ∀ p ∈ l, p.1 ≠ it := by
  obtain ⟨l, q, k⟩ := c
  exact ⟨l, q, fun p hp => (I.pin p (List.mem_append_left _ (k p hp))).1, fun p hp => h p (List.mem_append_left _ (k p hp))⟩
structure TurnB (P : Program) (w : World) (K : PySem.W.Frag) (tg : Expr) (J : It) (fp : List Addr) (it : Addr) (tn : Nat → Heap → Prop) : Prop where
  mem : it ∈ fp
  obj : ∀ i h, tn i h → ∀ b ∈ fp, ∃ o, h.get? b = some o ∧ ∀ v, o.data ≠ .cell v
  keep : ∀ i h h', tn i h → (∀ b ∈ fp, ∀ o, h.get? b = some o → h'.get? b = some o) → tn i h'
  item : ∀ (X : Cx), X.prog = P → X.w = w → X.K = K → HC X → ∀ (i : Nat) (pins : List (Addr × Obj)) (s : Shared) (σ : L2.St) (H : Hp) (E : Value → Shared → Prop), Inv X pins σ H s → (∀ b ∈ fp, FpOk X pins H b) → tn i s.heap → J.go i H →
    wpAny (model P w) X.A (pyNext (.ref it)) (fun r s1 => ∃ u, r = some u ∧
      wpAny (model P w) X.A (letOwnedTupleGo tg (.ref it) u) (fun _ s2 => ∃ x H', Inv X pins σ H' s2 ∧ RelV x u ∧ J.yld i H x H' ∧ tn (i + 1) s2.heap ∧ ∀ b ∈ fp, H' b = none) E s1) E s
  done : ∀ (X : Cx), X.prog = P → X.w = w → X.K = K → HC X → ∀ (i : Nat) (pins : List (Addr × Obj)) (s : Shared) (σ : L2.St) (H : Hp) (E : Value → Shared → Prop), Inv X pins σ H s → (∀ b ∈ fp, FpOk X pins H b) → tn i s.heap → J.stop i H →
    wpAny (model P w) X.A (pyNext (.ref it)) (fun r s1 => r = none ∧ Inv X pins σ H s1) E s
  self : ∀ (A : Around) (i : Nat) (s : Shared) (Q : Value → Shared → Prop) (E : Value → Shared → Prop), tn i s.heap → Q (.ref it) s → wpAny (model P w) A (pyIter (.ref it)) Q E s
section
variable {P : Program} {w : World} {K : PySem.W.Frag} {tg : Expr}
theorem turnB_range (it : Addr) (lo : Int) (n : Nat) : TurnB P w K tg (Itr lo n) [it] it (fun i h => IsRangeIter h it (lo + (i : Nat) * 1) ((n : Int) - (i : Nat)) 1) where
  mem := (L2H.turn_rangeH (P := P) (w := w) (K := K) (tg := tg) it lo n).mem
  obj := (L2H.turn_rangeH (P := P) (w := w) (K := K) (tg := tg) it lo n).obj
  keep := (L2H.turn_rangeH (P := P) (w := w) (K := K) (tg := tg) it lo n).keep
  item := by
    intro X hP hw hK hc i pins s σ H E I hf st hg
    subst hP hw hK
    obtain ⟨f0, f1, f2, f3, f4, f5⟩ := hf it (by simp)
    have hlt : i < n := hg
    refine wpAny_pyNext_range_item st (by omega) fun h' st' sb => ?_
    have st2 : IsRangeIter h' it (lo + ((i + 1 : Nat) : Int) * 1) ((n : Int) - ((i + 1 : Nat) : Int)) 1 := by
      have e1 : lo + ((i : Nat) : Int) * 1 + 1 = lo + ((i + 1 : Nat) : Int) * 1 := by omega
      have e2 : (n : Int) - ((i : Nat) : Int) - 1 = (n : Int) - ((i + 1 : Nat) : Int) := by omega
      rw [← e1, ← e2]
      exact st'
    have I1 : Inv X pins σ H { s with heap := h', toks := s.toks + 1 } := I.turned (fun b o hb e => (sb.2 b hb).trans e) f0 f1 f3 f4 f5
    refine ⟨_, rfl, go_of (s := { s with heap := h', toks := s.toks + 1 }) (n := "range_iterator") st2 rfl rfl (by decide) ⟨.int (lo + i), H, I1, ⟨s.toks, ?_⟩, ⟨rfl, rfl⟩, st2, fun b hb => (hf b hb).1⟩⟩
    rw [Int.mul_one]
  done := by
    intro X hP hw hK hc i pins s σ H E I hf st hg
    subst hP hw hK
    obtain ⟨f0, f1, f2, f3, f4, f5⟩ := hf it (by simp)
    obtain ⟨l, hot, stl, ne⟩ := hc.ne I f5
    exact ends_range hot stl st (by have : n ≤ i := hg; omega) fun h' eb => ⟨rfl, I.turned (t' := s.toks) eb f0 f1 f3 f4 f5⟩
  self := fun _ _ _ _ _ st h => wpAny_pyIter_rangeiter st h
theorem turnB_list (a it : Addr) : TurnB P w K tg (Itl K a) [it] it (fun i h => h.IsListIter it a i) where
  mem := (turn_list (P := P) (w := w) (tg := tg) (K := K) a it).mem
  obj := (turn_list (P := P) (w := w) (tg := tg) (K := K) a it).obj
  keep := (turn_list (P := P) (w := w) (tg := tg) (K := K) a it).keep
  item := by
    intro X hP hw hK hc i pins s σ H E I hf st hg
    subst hP hw hK
    obtain ⟨xs, x, hq, hx⟩ := hg
    obtain ⟨its, rv, p, hz⟩ := I.list hq
    obtain ⟨u, hu, ru⟩ := rv.get hx
    obtain ⟨f0, f1, f2, f3, f4, f5⟩ := hf it (by simp)
    refine wpAny_pyNext_list_item st p.isList (x := u) (by simpa using hu) fun h' st' sb => ?_
    have I1 : Inv X pins σ H { s with heap := h' } := I.turned (t' := s.toks) (fun b o hb e => (sb.2 b hb).trans e) f0 f1 f3 f4 f5
    obtain ⟨o, e, c, d⟩ := id st'
    exact ⟨u, rfl, go_of (s := { s with heap := h' }) e c d (by decide) ⟨x, H, I1, ru, ⟨rfl, fun ys hy => by rw [I.list_inj hy hq]; exact hx⟩, st', fun b hb => (hf b hb).1⟩⟩
  done := by
    intro X hP hw hK hc i pins s σ H E I hf st hg
    subst hP hw hK
    obtain ⟨xs, hq, hx⟩ := hg
    obtain ⟨its, rv, p, hz⟩ := I.list hq
    obtain ⟨f0, f1, f2, f3, f4, f5⟩ := hf it (by simp)
    have hl := rv.length
    obtain ⟨l, hot, stl, ne⟩ := hc.ne I f5
    exact ends_list hot stl ne st p.isList (by simp; omega) fun h' eb => ⟨rfl, I.turned (t' := s.toks) eb f0 f1 f3 f4 f5⟩
  self := (turn_list (P := P) (w := w) (tg := tg) (K := K) a it).self
theorem turnB_tuple (a it : Addr) : TurnB P w K tg (Itt K a) [it] it (fun i h => h.IsTupleIter it a i) where
  mem := (turn_tuple (P := P) (w := w) (tg := tg) (K := K) a it).mem
  obj := (turn_tuple (P := P) (w := w) (tg := tg) (K := K) a it).obj
  keep := (turn_tuple (P := P) (w := w) (tg := tg) (K := K) a it).keep
  item := by
    intro X hP hw hK hc i pins s σ H E I hf st hg
    subst hP hw hK
    obtain ⟨xs, x, hq, hx⟩ := hg
    obtain ⟨its, rv, p, hz⟩ := I.tuple hq
    obtain ⟨u, hu, ru⟩ := rv.get hx
    obtain ⟨f0, f1, f2, f3, f4, f5⟩ := hf it (by simp)
    refine wpAny_pyNext_tuple_item st (show s.heap.IsTuple a its.toArray from p) (x := u) (by simpa using hu) fun h' st' sb => ?_
    have I1 : Inv X pins σ H { s with heap := h' } := I.turned (t' := s.toks) (fun b o hb e => (sb.2 b hb).trans e) f0 f1 f3 f4 f5
    obtain ⟨o, e, c, d⟩ := id st'
    exact ⟨u, rfl, go_of (s := { s with heap := h' }) e c d (by decide) ⟨x, H, I1, ru, ⟨rfl, fun ys hy => by rw [I.tuple_inj hy hq]; exact hx⟩, st', fun b hb => (hf b hb).1⟩⟩
  done := by
    intro X hP hw hK hc i pins s σ H E I hf st hg
    subst hP hw hK
    obtain ⟨xs, hq, hx⟩ := hg
    obtain ⟨its, rv, p, hz⟩ := I.tuple hq
    obtain ⟨f0, f1, f2, f3, f4, f5⟩ := hf it (by simp)
    have hl := rv.length
    obtain ⟨l, hot, stl, ne⟩ := hc.ne I f5
    exact ends_tuple hot stl ne st (show s.heap.IsTuple a its.toArray from p) (by simp; omega) fun h' eb => ⟨rfl, I.turned (t' := s.toks) eb f0 f1 f3 f4 f5⟩
  self := (turn_tuple (P := P) (w := w) (tg := tg) (K := K) a it).self
theorem turnB_str (it : Addr) (x : Str) (t : Tok) (ty : String) (hty : ty = "str_ascii_iterator" ∨ ty = "str_iterator") : TurnB P w K tg (Its x) [it] it (fun i h => h.IsStrIter it ty x t i) where
  mem := (turn_str (P := P) (w := w) (tg := tg) (K := K) it x t ty hty).mem
  obj := (turn_str (P := P) (w := w) (tg := tg) (K := K) it x t ty hty).obj
  keep := (turn_str (P := P) (w := w) (tg := tg) (K := K) it x t ty hty).keep
  item := by
    intro X hP hw hK hc i pins s σ H E I hf st hg
    subst hP hw hK
    obtain ⟨f0, f1, f2, f3, f4, f5⟩ := hf it (by simp)
    have hno : ["enumerate", "zip", "dict_itemiterator", "dict_reverseitemiterator", "odict_iterator", "itertools.zip_longest", "itertools.pairwise"].contains ty = false := by
      rcases hty with e | e <;> (rw [e]; decide)
    have hg : i < x.cps.size := hg
    have hcx : x.cps[i]? = some x.cps[i] := Array.getElem?_eq_getElem hg
    have go : ∀ h', h'.IsStrIter it ty x t (i + 1) → Heap.SameBut it s.heap h' → ∃ u, some (Value.str ⟨#[x.cps[i]]⟩ s.toks) = some u ∧ wpAny (model X.prog X.w) X.A (letOwnedTupleGo tg (.ref it) u) (fun _ s2 => ∃ y H', Inv X pins σ H' s2 ∧ RelV y u ∧ (Its x).yld i H y H' ∧ s2.heap.IsStrIter it ty x t (i + 1) ∧ ∀ b ∈ [it], H' b = none) E { s with heap := h', toks := s.toks + 1 } := fun h' st' sb => by
      have I1 : Inv X pins σ H { s with heap := h', toks := s.toks + 1 } := I.turned (fun b o hb e => (sb.2 b hb).trans e) f0 f1 f3 f4 f5
      obtain ⟨oi, e, cc, dd⟩ := id st'
      exact ⟨_, rfl, go_of (s := { s with heap := h', toks := s.toks + 1 }) e cc dd hno ⟨.str ⟨#[x.cps[i]]⟩, H, I1, ⟨_, rfl⟩, ⟨rfl, _, hcx, rfl⟩, st', fun b hb => (hf b hb).1⟩⟩
    rcases hty with e | e
    · subst e; exact wpAny_pyNext_ascii_item st hcx go
    · subst e; exact wpAny_pyNext_wide_item st hcx go
  done := by
    intro X hP hw hK hc i pins s σ H E I hf st hg
    subst hP hw hK
    obtain ⟨f0, f1, f2, f3, f4, f5⟩ := hf it (by simp)
    have hx : x.cps[i]? = none := Array.getElem?_eq_none hg
    obtain ⟨l, hot, stl, ne⟩ := hc.ne I f5
    rcases hty with e | e
    · subst e; exact ends_ascii hot stl ne st hx fun h' eb => ⟨rfl, I.turned (t' := s.toks) eb f0 f1 f3 f4 f5⟩
    · subst e; exact ends_wide hot stl ne st hx fun h' eb => ⟨rfl, I.turned (t' := s.toks) eb f0 f1 f3 f4 f5⟩
  self := (turn_str (P := P) (w := w) (tg := tg) (K := K) it x t ty hty).self
end
def PIEB (X : Cx) (pins : List (Addr × Obj)) (σ : L2.St) (tg : Expr) (R : It → Hp → Prop) (itv : Value) (s2 : Shared) : Prop :=
  ∃ (it : Addr) (fp : List Addr) (tn : Nat → Heap → Prop) (J : It) (H' : Hp), itv = .ref it ∧ Inv X pins σ H' s2 ∧ TurnB X.prog X.w X.K tg J fp it tn ∧ tn 0 s2.heap ∧ (∀ b ∈ fp, FpOk X pins H' b) ∧ R J H'
structure PIB (X : Cx) (tg iter : Expr) (wi : TI) : Prop where
  run : ∀ (pins : List (Addr × Obj)) (s : Shared) (σ : L2.St) (H : Hp) (R : It → Hp → Prop), Inv X pins σ H s → wi σ H R →
    wpAny (model X.prog X.w) X.A (eval iter X.env) (fun v s1 => wpAny (model X.prog X.w) X.A (pyIter v) (PIEB X pins σ tg R) X.xe s1) X.xe s
section
variable {X : Cx} {tg : Expr}
theorem range_itB {pins : List (Addr × Obj)} {σ : L2.St} {H : Hp} {s : Shared} {R : It → Hp → Prop} {E : Value → Shared → Prop} {lo hi : Int} {t u v : Tok} {tk : Nat} (I : Inv X pins σ H s) (h1 : -(2 ^ 62) ≤ lo) (h2 : lo < 2 ^ 62) (h3 : -(2 ^ 62) ≤ hi) (h4 : hi < 2 ^ 62)
    (q : R (Itr lo (hi - lo).toNat) H) : wpAny (model X.prog X.w) X.A (pyIter (.ref s.heap.objs.size)) (PIEB X pins σ tg R) E { s with heap := s.heap.push { cls := .type "range", data := .fields #[.int lo t, .int hi u, .int 1 v] }, toks := tk } := by
  refine wpAny_pyIter_range (IsRange.new ..) (small_one h1 h2 h3 h4) ?_
  have I1 : Inv X pins σ H { s with heap := s.heap.push { cls := .type "range", data := .fields #[.int lo t, .int hi u, .int 1 v] }, toks := tk } := I.kept fun b o e => Heap.get?_push_of_some _ e
  refine ⟨(s.heap.push { cls := .type "range", data := .fields #[.int lo t, .int hi u, .int 1 v] }).objs.size, [(s.heap.push { cls := .type "range", data := .fields #[.int lo t, .int hi u, .int 1 v] }).objs.size], _, _, H, rfl,
    I1.kept (t' := tk) fun b o e => Heap.get?_push_of_some _ e, turnB_range _ lo (hi - lo).toNat, ?_, fun b hb => ?_, q⟩
  · have e1 : lo + ((0 : Nat) : Int) * 1 = lo := by simp
    have e2 : (((hi - lo).toNat : Nat) : Int) - ((0 : Nat) : Int) = Builtin.Range.rangeSize lo hi 1 := by rw [rangeSize_one]; split <;> omega
    show IsRangeIter _ _ (lo + ((0 : Nat) : Int) * 1) ((((hi - lo).toNat : Nat) : Int) - ((0 : Nat) : Int)) 1
    rw [e1, e2]
    exact Heap.get?_push_size _ rfl
  · have e : b = (s.heap.push { cls := .type "range", data := .fields #[.int lo t, .int hi u, .int 1 v] }).objs.size := by simpa using hb
    subst e
    exact I1.fpOk (Nat.le_refl _) (I1.hok.fresh (Nat.le_refl _))
theorem pi_range1B {a : Expr} {ta : TA} {p pos : Pos} (hg : Gl X "range") (hm : X.mg "range" = none) (ha : PA X [a] ta) (hs : starEach [a] X.env = [(false, eval a X.env)] := by rfl) : PIB X tg (.Call (.Name "range" p) [a] [] pos) (iRng1 ta) := by
  refine ⟨fun pins s σ H R I h => ?_⟩
  refine Call_ (ld_blt I hg hm boot_range (PyProof.Rows.callWith_type1 (thn (ha.run pos pins s σ H _ I h) fun us s1 ⟨vs, H1, I1, r1, q1⟩ => ?_) hs rfl))
  obtain ⟨j, e, q1, q2, q⟩ := q1
  subst e
  cases r1 with
  | cons r rr =>
    cases rr
    obtain ⟨t, rfl⟩ := r
    exact call_range_1 (range_itB I1 (by omega) (by omega) q1 q2 (by simpa using q))
theorem ps_forB {iter : Expr} {body : List Stmt} {wi : TI} {g : TG} {tb : TS} {pos : Pos} (hp : PassesOwn (model X.prog X.w) X.A X.env X.xe) (hc : HC X) (hi : PIB X tg iter wi) (hg : PG X tg g) (hb : PSs X body tb)
    (hs : ∀ x, foldedSetIterable iter X.env x = pure x := by intro _; rfl) : PS X (.For tg iter body [] pos) (tFor wi g tb) := by
  refine ⟨fun pins s σ H D I h => ?_⟩
  refine wpAny_For (thn (hi.run pins s σ H _ I h) fun v s1 h1 => thn h1 fun itv s2 h2 => ?_) hs
  obtain ⟨it, fp, tn, J, H2, e, I2, T, st2, f2, W, ⟨m0, w0⟩, turn⟩ := h2
  subst e
  have stat : ∀ {H' : Hp}, (∀ b ∈ fp, H' b = none) → ∀ b ∈ fp, FpOk X pins H' b := fun hn b hb => ⟨hn b hb, (f2 b hb).2⟩
  refine codeAny_forLoop_any (fun n s' => ∃ i σ' H', Inv X pins σ' H' s' ∧ tn i s'.heap ∧ (∀ b ∈ fp, H' b = none) ∧ W i n σ' H') ?_ m0 ⟨0, σ, H2, I2, st2, fun b hb => (f2 b hb).1, w0⟩
  rintro n s3 ⟨i, σ3, H3, I3, st3, fr3, w3⟩
  rcases turn i n σ3 H3 w3 with ⟨stop, qn⟩ | ⟨go, N, hN, step⟩
  · refine wpAny_passesOwn hp (thn (T.done X rfl rfl rfl hc i pins s3 σ3 H3 X.xe I3 (stat fr3) st3 stop) fun r s4 ⟨hr, I4⟩ => ?_)
    subst hr
    exact wpAny_execs_nil ⟨σ3, H3, I4, qn⟩
  · refine wpAny_passesOwn hp (thn (T.item X rfl rfl rfl hc i pins s3 σ3 H3 X.xe I3 (stat fr3) st3 go) fun r s4 ⟨u, hr, h4⟩ => ?_)
    subst hr
    refine wpAny_passesOwn hp (thn h4 fun _ s5 ⟨x, H5, I5, r5, y5, st5, fr5⟩ => ?_)
    have I5' := I5.pinned (stat fr5) (T.obj _ _ st5)
    refine wpAny_passesOwn hp (thn (hg.run _ s5 σ3 H5 x u _ I5' r5 (step x H5 y5)) fun _ s6 ⟨σ6, H6, I6, q6⟩ => ?_)
    refine wpAny_passesOwn hp (thn (hb.run _ s6 σ6 H6 _ I6 q6) fun f s7 q7 => ?_)
    have again : ∀ {σ7 : L2.St} {H7 : Hp}, Inv X (pins ++ pinsAt fp s5.heap) σ7 H7 s7 → N σ7 H7 → ∃ m, m < n ∧ ∃ i σ' H', Inv X pins σ' H' s7 ∧ tn i s7.heap ∧ (∀ b ∈ fp, H' b = none) ∧ W i m σ' H' := fun {σ7 H7} I7 n7 => by
      obtain ⟨m', hm, w7⟩ := hN σ7 H7 n7
      refine ⟨m', hm, i + 1, σ7, H7, I7.unpinned, T.keep _ _ _ st5 fun b hb o e => (I7.pin (b, o) (List.mem_append_right _ (List.mem_append_right _ (mem_pinsAt hb e)))).1, fun b hb => ?_, w7⟩
      obtain ⟨o, e, d⟩ := T.obj _ _ st5 b hb
      exact (I7.pin (b, o) (List.mem_append_right _ (List.mem_append_right _ (mem_pinsAt hb e)))).2.1
    cases f with
    | next => obtain ⟨σ7, H7, I7, n7⟩ := q7; exact again I7 n7
    | cont => obtain ⟨σ7, H7, I7, n7⟩ := q7; exact again I7 n7
    | brk => obtain ⟨σ7, H7, I7, q7⟩ := q7; exact ⟨σ7, H7, I7.unpinned, q7⟩
    | ret v => obtain ⟨x7, σ7, H7, I7, r7, q7⟩ := q7; exact ⟨x7, σ7, H7, I7.unpinned, r7, q7⟩
end
section
variable {X : Cx} {tg : Expr}
theorem pi_listB {l : Expr} {tl : TE} (hl : PE X l tl) : PIB X tg l (iList X.K tl) := by
  refine ⟨fun pins s σ H R I h => thn (hl.run pins s σ H _ I h) fun v s1 ⟨x, H1, I1, r1, a, e, ⟨xs, hq⟩, q⟩ => ?_⟩
  subst e
  cases r1
  obtain ⟨its, rv, p, hz⟩ := I1.list hq
  refine wpAny_pyIter_list p.isList ⟨s1.heap.objs.size, [s1.heap.objs.size], _, _, H1, rfl, I1.kept (t' := s1.toks) fun b o e => Heap.get?_push_of_some _ e, turnB_list a _, ⟨_, Heap.get?_push_size _ rfl, rfl, rfl⟩, fun b hb => ?_, q⟩
  obtain rfl : b = s1.heap.objs.size := by simpa using hb
  exact I1.fpOk (Nat.le_refl _) (I1.hok.fresh (Nat.le_refl _))
theorem pi_tupB {l : Expr} {tl : TE} (hl : PE X l tl) : PIB X tg l (iTup X.K tl) := by
  refine ⟨fun pins s σ H R I h => thn (hl.run pins s σ H _ I h) fun v s1 ⟨x, H1, I1, r1, a, e, ⟨xs, hq⟩, q⟩ => ?_⟩
  subst e
  cases r1
  obtain ⟨its, rv, p, hz⟩ := I1.tuple hq
  refine wpAny_pyIter_tuple (show s1.heap.IsTuple a its.toArray from p) ⟨s1.heap.objs.size, [s1.heap.objs.size], _, _, H1, rfl, I1.kept (t' := s1.toks) fun b o e => Heap.get?_push_of_some _ e, turnB_tuple a _, ⟨_, Heap.get?_push_size _ rfl, rfl, rfl⟩, fun b hb => ?_, q⟩
  obtain rfl : b = s1.heap.objs.size := by simpa using hb
  exact I1.fpOk (Nat.le_refl _) (I1.hok.fresh (Nat.le_refl _))
theorem pi_strB {e : Expr} {te : TE} (he : PE X e te) : PIB X tg e (iStr te) := by
  refine ⟨fun pins s σ H R I h => thn (he.run pins s σ H _ I h) fun v s1 ⟨y, H1, I1, r1, x, ex, q⟩ => ?_⟩
  subst ex
  obtain ⟨t, rfl⟩ := r1
  have fin : ∀ ty : String, ty = "str_ascii_iterator" ∨ ty = "str_iterator" → PIEB X pins σ tg R (.ref s1.heap.objs.size) { s1 with heap := s1.heap.push { cls := .type ty, data := .fields #[.str x t, .int 0 0] } } := fun ty hty =>
    ⟨s1.heap.objs.size, [s1.heap.objs.size], _, _, H1, rfl, I1.kept (t' := s1.toks) fun b o e => Heap.get?_push_of_some _ e, turnB_str _ x t ty hty, ⟨_, Heap.get?_push_size _ rfl, rfl, rfl⟩, fun b hb => by
      obtain rfl : b = s1.heap.objs.size := by simpa using hb
      exact I1.fpOk (Nat.le_refl _) (I1.hok.fresh (Nat.le_refl _)), q⟩
  cases ha : x.cps.all (· < 128)
  · exact wpAny_pyIter_wide ha (fin _ (.inr rfl))
  · exact wpAny_pyIter_ascii ha (fin _ (.inl rfl))
abbrev blkB (X : Cx) (s : Shared) (H : Hp) (scope : Scope) (cenv : Env) (fp : List Addr) (l : Hl) : Cx := (X.blk s H scope cenv fp).tr l (fun _ _ => False)
theorem Inv.blkB {pins : List (Addr × Obj)} {σ σ' : L2.St} {H : Hp} {s s4 : Shared} {scope : Scope} {cenv : Env} {fp : List Addr} {l : Hl} (I : Inv X pins σ H s) (J : Inv (X.blk s H scope cenv fp) [] σ' H s4) (hp : ∀ p ∈ l, p ∈ X.pn) (k : ∀ b o, s.heap.get? b = some o → s4.heap.get? b = some o) (hl : cenv.locals = s.heap.objs.size) :
    Inv (Mm.blkB X s H scope cenv fp l) [] σ' H s4 := by
  refine (J.pins_of (pins' := l) fun q hq => ?_).toTry _
  have P := I.pin q (List.mem_append_left _ (hp q hq))
  exact ⟨k _ _ P.1, P.2.1, by rw [show (X.blk s H scope cenv fp).env.locals = s.heap.objs.size from hl]; exact Nat.ne_of_lt (Heap.lt_size P.1), fun hm => (List.mem_cons.mp (I.stkSub q.1 hm)).elim P.2.2.1 P.2.2.2.1, P.2.2.2.2⟩
end
section
variable {X : Cx}
theorem pe_lcB {elt tg iter : Expr} {ifs : List Expr} {scope : Scope} {own : List (Str × Nat)} {pos : Pos} {wi : TI} {g : TG} {tt : TT} {te : TE} (hc : HC X) (hN : X.N.Nodup) (hi : PIB X tg iter wi) (ok : BlkOk X.N X.env.scope scope own)
    (hg : ∀ (s : Shared) (H : Hp) (C : Addr) (cl : List (Str × Addr)) (fp : List Addr) (l : Hl), Hand X.A l → PG (Mm.blkB X s H scope (compEnvC scope cl C X.env) fp l) tg g) (ht : ∀ (s : Shared) (H : Hp) (C : Addr) (cl : List (Str × Addr)) (fp : List Addr) (l : Hl), Hand X.A l → PTs (Mm.blkB X s H scope (compEnvC scope cl C X.env) fp l) ifs tt)
    (he : ∀ (s : Shared) (H : Hp) (C : Addr) (cl : List (Str × Addr)) (fp : List Addr) (l : Hl), Hand X.A l → PE (Mm.blkB X s H scope (compEnvC scope cl C X.env) fp l) elt te) (hs : ∀ x, foldedSetIterable iter X.env x = pure x := by intro _; rfl) :
    PE X (.ListComp elt [⟨tg, iter, ifs, 0⟩] scope pos) (tLc wi g tt te (own.map (·.2))) := by
  refine ⟨fun pins s σ H Q I h => ?_⟩
  rw [eval_ListComp]
  obtain ⟨l, hot, hp⟩ := hc
  have hfree : ∀ y ∈ scope.names, y.2 = .free → ∃ c, X.env.cells.lookup y.1 = some c := fun y hy e => (ok.free y hy e).elim (fun k => I.ok.has _ (.inl k)) fun k => I.ok.has _ (.inr k)
  refine wpAny_comprehension_free (use := none) rfl hs (closure_ok hfree) ok.kind (fun y hy e => by rw [ok.uniq y hy, e])
    (thn (hi.run pins s σ H _ I h) fun xv s1 hx => thn hx fun itv s2 ⟨it, fp, tn, J, H2, e, I2, T, st2, f2, q⟩ => ?_)
  subst e
  refine wpAny_newObj_type (newEnv_comp ?_) (by show 0 ≤ sizeLine; decide)
  obtain ⟨D, hD⟩ : ∃ D, s2.heap.objs.size = D := ⟨_, rfl⟩
  obtain ⟨W, ⟨m0, w0⟩, turn⟩ := q D (I2.hok.fresh (Nat.le_of_eq hD))
  obtain ⟨s3, hs3⟩ : ∃ s3 : Shared, ({ s2 with heap := s2.heap.push { cls := .type "list", data := .seq ([] : List Value).toArray } } : Shared) = s3 := ⟨_, rfl⟩
  have h3 : s3.heap = s2.heap.push { cls := .type "list", data := .seq ([] : List Value).toArray } := by rw [← hs3]
  have I3 : Inv X pins σ (upd H2 D (.lst [])) s3 := by
    rw [← hs3]
    exact I2.laid (t' := s2.toks) (fun b o e => Heap.get?_push_of_some _ e) (Nat.le_of_eq hD) ⟨Nat.zero_le _, [], 0, .nil, by rw [← hD]; exact Heap.get?_push_size _ rfl⟩
  have sz : ∀ b ∈ fp, b < s2.heap.objs.size := fun b hb => by obtain ⟨o, e, _⟩ := T.obj _ _ st2 b hb; exact Heap.lt_size e
  have f3 : ∀ b ∈ fp, FpOk X pins (upd H2 D (.lst [])) b ∧ b < s3.heap.objs.size := fun b hb =>
    ⟨⟨by rw [upd_ne (by rw [← hD]; exact Nat.ne_of_lt (sz b hb))]; exact (f2 b hb).1, (f2 b hb).2⟩, by rw [h3, Heap.size_push]; exact Nat.lt_succ_of_lt (sz b hb)⟩
  have st3 : tn 0 s3.heap := T.keep _ _ _ st2 fun b _ o e => by rw [h3]; exact Heap.get?_push_of_some _ e
  rw [hs3, hD]
  clear hs3 hD h3 sz st2 f2 I2
  have nfp : ∀ b ∈ fp, (upd H2 D (.lst [])) b = none := fun b hb => (f3 b hb).1.1
  generalize upd H2 D (.lst []) = H3 at I3 w0 nfp f3
  have I4 := block_start I3 ok hN f3
  have pg := fun cl C => hg s3 H3 C cl fp l hot
  have pt := fun cl C => ht s3 H3 C cl fp l hot
  have pe := fun cl C => he s3 H3 C cl fp l hot
  have kp : ∀ b o, s3.heap.get? b = some o → (pushCells (s3.heap.push { cls := .type "dict", data := .dict #[] }) scope.names).get? b = some o := fun b o e => pushCells_keeps _ _ _ _ (Heap.get?_push_of_some _ e)
  replace I4 := Inv.blkB I3 I4 hp kp rfl
  show codeAny _ _ (.compStart (.ListComp elt [⟨tg, iter, ifs, 0⟩] scope pos) 0 (.ref it) (.ref D) (compEnvC scope (cellsFrom (s3.heap.objs.size + 1) scope.names (cloFrom X.env.cells scope.names [])) s3.heap.objs.size X.env)) _ { s3 with heap := pushCells (s3.heap.push { cls := .type "dict", data := .dict #[] }) scope.names }
  replace pg := pg (cellsFrom (s3.heap.objs.size + 1) scope.names (cloFrom X.env.cells scope.names [])) s3.heap.objs.size
  replace pt := pt (cellsFrom (s3.heap.objs.size + 1) scope.names (cloFrom X.env.cells scope.names [])) s3.heap.objs.size
  replace pe := pe (cellsFrom (s3.heap.objs.size + 1) scope.names (cloFrom X.env.cells scope.names [])) s3.heap.objs.size
  generalize hce : compEnvC scope (cellsFrom (s3.heap.objs.size + 1) scope.names (cloFrom X.env.cells scope.names [])) s3.heap.objs.size X.env = ce at I4 pg pt pe ⊢
  have cL : ce.locals = s3.heap.objs.size := by subst hce; rfl
  have st4 : tn 0 ({ s3 with heap := pushCells (s3.heap.push { cls := .type "dict", data := .dict #[] }) scope.names } : Shared).heap := T.keep _ _ _ st3 fun b _ o e => kp b o e
  generalize ({ s3 with heap := pushCells (s3.heap.push { cls := .type "dict", data := .dict #[] }) scope.names } : Shared) = s4 at I4 st4 ⊢
  have stat : ∀ {σ' : L2.St} {H' : Hp} {s' : Shared}, Inv (Mm.blkB X s3 H3 scope ce fp l) [] σ' H' s' → (∀ b ∈ fp, H' b = none) → ∀ b ∈ fp, FpOk (Mm.blkB X s3 H3 scope ce fp l) [] H' b := fun {σ' H' s'} I' hn b hb =>
    ⟨hn b hb, (I'.ok.exf b hb).1, I'.ok.exfs b hb, .inl hb, (I'.ok.exf b hb).2, fun q hq => by
      exact (f3 b hb).1.2.2.2.2.2 q (List.mem_append_left _ (hp q (by simpa using hq)))⟩
  have hot' : HC (Mm.blkB X s3 H3 scope ce fp l) := ⟨l, hot, fun _ h => h⟩
  refine (fun (loop : codeAny (model X.prog X.w) X.A (.compLoop (.ListComp elt [⟨tg, iter, ifs, 0⟩] scope pos) 0 (.ref it) (.ref D) ce) _ s4) => codeAny_compStart_list loop (T.self X.A 0 _ _ _ st4 loop)) ?_
  refine compLoop_any (fun n s' => ∃ i H', Inv (Mm.blkB X s3 H3 scope ce fp l) [] (wipe σ (own.map (·.2))) H' s' ∧ tn i s'.heap ∧ (∀ b ∈ fp, H' b = none) ∧ W i n H') ?_ m0 ⟨0, H3, I4, st4, nfp, w0⟩
  rintro n s5 ⟨i, H5, I5, st5, n5, w5⟩
  rcases turn i n H5 w5 with ⟨stop, qq⟩ | ⟨go, Nx, hNx, step⟩
  · refine thnF (T.done (Mm.blkB X s3 H3 scope ce fp l) rfl rfl rfl hot' i [] s5 _ H5 (fun _ _ => False) I5 (stat I5 n5) st5 stop) fun r s6 ⟨hr, I6⟩ => ?_
    subst hr
    have I7 : Inv X pins σ H5 s6 := I3.call' (ch := fp) I6.os I6.base I6.hok I6.bare fun b hb => ⟨(f3 b hb).1.2.2.2.1, (f3 b hb).1.2.1, (f3 b hb).1.2.2.2.2.1, (f3 b hb).1.2.2.2.2.2⟩
    have nC : H5 s3.heap.objs.size = none := by rw [← cL]; exact I6.free
    obtain ⟨m, hn, _⟩ := I6.loc
    have hn : s6.heap.Ns s3.heap.objs.size m := by rw [← cL]; exact hn
    obtain ⟨g0, g1, g2, g3, g4, g5⟩ := I3.fpOk (Nat.le_refl _) nC
    exact ⟨m, hn, fun h'' sb => ⟨.ref D, H5, I7.turned (t' := s6.toks) (fun b o hb e => (sb.2 b hb).trans e) g0 g1 g3 g4 g5, rfl, qq⟩⟩
  · refine thnF (T.item (Mm.blkB X s3 H3 scope ce fp l) rfl rfl rfl hot' i [] s5 _ H5 (fun _ _ => False) I5 (stat I5 n5) st5 go) fun r s6 ⟨u, hr, h6⟩ => ?_
    subst hr
    refine thnF h6 fun _ s7 ⟨x, H7, I7, r7, y7, st7, n7⟩ => ?_
    refine thnF (pg.run _ s7 _ H7 x u _ (I7.pinned (stat I7 n7) (T.obj _ _ st7)) r7 (step x H7 y7)) fun _ s8 ⟨σ8, H8, I8, hw8, q8⟩ => ?_
    refine thnF (pt.run _ s8 σ8 H8 _ I8 q8) fun b s9 ⟨H9, I9, q9⟩ => ?_
    have fin : ∀ {s' : Shared} {H' : Hp}, Inv (Mm.blkB X s3 H3 scope ce fp l) ([] ++ pinsAt fp s7.heap) σ8 H' s' → Nx H' → ∃ m, m < n ∧ ∃ i H', Inv (Mm.blkB X s3 H3 scope ce fp l) [] (wipe σ (own.map (·.2))) H' s' ∧ tn i s'.heap ∧ (∀ b ∈ fp, H' b = none) ∧ W i m H' := fun {s' H'} I' nx => by
      obtain ⟨m', hm, w'⟩ := hNx H' nx
      have pin' : ∀ b ∈ fp, ∀ o, s7.heap.get? b = some o → s'.heap.get? b = some o ∧ H' b = none := fun b hb o e =>
        let z := I'.pin (b, o) (List.mem_append_right _ (List.mem_append_right _ (mem_pinsAt hb e)))
        ⟨z.1, z.2.1⟩
      refine ⟨m', hm, i + 1, H', (I'.unpinned (pins := [])).weak (by rw [← hw8, wipe_length]) (fun j v e => by rw [← hw8] at e; exact (wipe_some e).1), T.keep _ _ _ st7 fun b hb o e => (pin' b hb o e).1, fun b hb => ?_, w'⟩
      obtain ⟨o, e, _⟩ := T.obj _ _ st7 b hb
      exact (pin' b hb o e).2
    cases b with
    | false => exact fin I9 q9
    | true => exact thnF (pe.run _ s9 σ8 H9 _ I9 q9) fun z s10 ⟨yv, H10, I10, r10, acc, hD10, hz10, nx⟩ => app_ok (X := Mm.blkB X s3 H3 scope ce fp l) I10 hD10 hz10 r10 fun s11 I11 => fin I11 nx
end
theorem walks_listB {prog : Program} {w : World} {A : Around} {l : Hl} (I ax : Addr) (hne : ax ≠ I) (hot : Hand A l) (nx : ∀ p ∈ l, p.1 ≠ I) (items : Array Value) :
    Walks prog w A I (I :: ax :: l.map (·.1)) [I] items.size (fun i v => items[i]? = some v) (fun i h => (h.IsListIter I ax i ∧ h.IsList ax items) ∧ Stand h l) where
  sub := fun b hb => by simp at hb; simp [hb]
  frame := fun _ _ _ st hk => ⟨⟨st.1.1.at fun o e => hk I (by simp) o e, st.1.2.at fun o e => hk ax (by simp) o e⟩, fun p hp => hk p.1 (by simp; exact .inr (.inr ⟨_, hp⟩)) _ (st.2 p hp)⟩
  item := fun i s Q E hi st hQ => by
    refine wpAny_pyNext_list_item st.1.1 st.1.2 (x := items[i]) (by simp [hi]) fun h' hit' hs' => ?_
    refine hQ _ h' s.toks (by simp [hi]) ⟨⟨hit', st.1.2.extBut hs'.extBut hne⟩, ?_⟩ fun b o hb e => hs'.extBut b o (fun h => hb (by simp [h])) e
    exact fun p hp => hs'.extBut p.1 _ (nx p hp) (st.2 p hp)
  done := fun s Q E st hQ => ends_list hot st.2 nx st.1.1 st.1.2 (by simp) fun h' he' => hQ h' s.toks fun b o hb e => he' b o (fun h => hb (by simp [h])) e
  self := fun _ _ _ _ st hQ => wpAny_pyIter_listiter st.1.1 hQ
section
variable {X : Cx}
theorem cr_allB (hc : HC X) : CallR X (.builtin "all") (rAll X.K) := by
  intro pins s σ H vs us Q I r h
  obtain ⟨a, bs, rfl, hs, q⟩ := h
  obtain ⟨its, rv, hl, _⟩ := I.list hs
  rw [Vals.ref1 r]
  have hb := rv.bls
  obtain ⟨l, hot, stl⟩ := hc.at I
  refine call_all_walk (iter_any hl.isList fun s₂ e2 st hne => ?_)
  subst e2
  have nx : ∀ p ∈ l, p.1 ≠ s.heap.objs.size := fun p hp => Nat.ne_of_lt (Heap.lt_size (stl p hp))
  refine ⟨_, _, _, _, _, _, _, rfl, walks_listB (A := X.A.in1) (l := l) _ a hne hot nx its.toArray, ⟨st, fun p hp => Heap.get?_push_of_some _ (stl p hp)⟩, truth_bools hb, fun h' tk hk => ?_⟩
  refine ⟨.bl _, H, I.kept fun b o eo => hk b o (fun hmem => ?_) (Heap.get?_push_of_some _ eo), ?_, q⟩
  · rcases List.mem_cons.mp hmem with e1 | hmem
    · exact absurd (e1 ▸ Heap.lt_size eo) (Nat.lt_irrefl _)
    · cases hmem
  · show Value.bool _ = Value.bool _
    rw [← L2.all_range, hb, List.size_toArray, List.length_map]
end
end Mm
namespace Mm
open PySem PySem.Spec L2 HotX
open PyProof.Rows (envOfC AllBare)
def Ctx0 (v : Value) (o : Obj) : Prop := ∀ vs : Array Value, o.data = .fields vs → vs[2]? = some v
theorem steady_ctx {v : Value} : PXN.Steady1 (Ctx0 v) := fun o u h => by
  obtain ⟨c, d, dt, sl⟩ := o
  cases dt with
  | fields vs0 =>
    intro vs e
    have e2 : vs0.setIfInBounds 1 u = vs := Data.fields.inj e
    have e3 : (vs0.setIfInBounds 1 u)[2]? = vs0[2]? := by
      first
      | exact Array.getElem?_setIfInBounds_ne (by decide)
      | simp [Array.getElem?_setIfInBounds]
    rw [← e2, e3]
    exact h vs0 rfl
  | _ =>
    intro vs e
    first
    | exact Data.noConfusion e
    | cases e
def Zb (cls : Value) (d : Option Addr) (t : Addr) (l : Hl) : Obj → Prop := fun o => Zc cls d o ∧ Args0 t o ∧ Ctx0 (hdV l) o
theorem Zb.steady {cls : Value} {d : Option Addr} {t : Addr} {l : Hl} : PXN.Steady1 (Zb cls d t l) := fun o v h => ⟨Zc.steady o _ h.1, steady_args o v h.2.1, steady_ctx o v h.2.2⟩
def CtxAt (B : Heap) (H : Hp) (l : Hl) : Prop := Link l ∧ ∀ p ∈ l, B.get? p.1 = some p.2 ∧ H p.1 = none
def XEB (X : Cx) (W : WX) (u : Value) (s' : Shared) : Prop :=
  ∃ (a : Addr) (B : Heap) (sI : Shared) (pins : List (Addr × Obj)) (σ : L2.St) (H : Hp) (cls : Value) (d : Option Addr) (t : Addr) (l : Hl),
    u = .ref a ∧ Inv X pins σ H sI ∧ (∀ b o, sI.heap.get? b = some o → b ∉ frs X.stack → B.get? b = some o) ∧ sI.heap.UpToSlots s'.heap ∧
      Sky B X.stack a (Zb cls d t l) X.env.locals s'.heap ∧ H a = none ∧ s'.os = sI.os ∧ AllBare s'.gens ∧ W cls d σ H ∧ TextAt B t ∧ H t = none ∧ CtxAt B H l
def TakesB (X : Cx) (W : WX) : Prop := ∀ u s', XEB X W u s' → X.xe u s'
def CXB (P : Program) (w : World) (outer : List Env) (H : Hp) (s : Shared) (E : XK) (u : Value) (s' : Shared) : Prop :=
  ∃ (a : Addr) (B : Heap) (H' : Hp) (cls : Value) (d : Option Addr) (t : Addr) (l : Hl), u = .ref a ∧ HandSPX.FlyingZ B outer a (Zb cls d t l) s'.heap ∧ HOk P w H' B ∧ UB (frs outer) H H' s.heap B s'.heap ∧ H' a = none ∧ s'.os = s.os ∧ AllBare s'.gens ∧ E cls d H' ∧
    TextAt B t ∧ H' t = none ∧ CtxAt B H' l
theorem CXB.weak {P : Program} {w : World} {outer : List Env} {H : Hp} {s s' : Shared} {E : XK} {u : Value} (x : CXB P w outer H s E u s') : L2.CX P w outer H s E u s' := by
  obtain ⟨a, B, H', cls, d, t, l, e, fl, hok, ub, na, os, ag, hE, _⟩ := x
  exact ⟨a, B, H', cls, d, e, L2H.flyingZ_imp (fun _ z => z.1) fl, hok, ub, na, os, ag, hE⟩
section
variable {X : Cx} {pins : List (Addr × Obj)} {σ : L2.St} {H : Hp} {sI s s' : Shared} {B : Heap} {W : WX} {E : XK}
theorem XEB.of_call (I : Inv X pins σ H s) (hW : ∀ cls d H', E cls d H' → W cls d σ H') {u : Value} (c : CXB X.prog X.w X.stack H s E u s') : XEB X W u s' := by
  obtain ⟨a, B, H', cls, d, t, l, rfl, fl, hok, ub, na, os, ag, hE, tx, tn⟩ := c
  obtain ⟨G, g1, g2⟩ := restrict s'.heap fun b => (B.get? b).isSome || decide (b ∈ frs X.stack)
  have st : B.StaysIn s'.heap := fl.1
  have gB : ∀ b o, B.get? b = some o → G.get? b = some o := fun b o e => by
    rw [g1 b (by simp [e])]
    exact st b o e
  have gF : ∀ b, b ∈ frs X.stack → G.get? b = s'.heap.get? b := fun b hb => g1 b (by simp [hb])
  have og : ∀ b o, G.get? b = some o → s'.heap.get? b = some o ∧ ((B.get? b).isSome = true ∨ b ∈ frs X.stack) := fun b o e => by
    cases q : ((B.get? b).isSome || decide (b ∈ frs X.stack)) with
    | false => rw [g2 b q] at e; cases e
    | true =>
      rw [g1 b q] at e
      exact ⟨e, by simpa [Bool.or_eq_true] using q⟩
  refine ⟨a, B, { s with heap := G, gens := s'.gens, drawn := s'.drawn, toks := s'.toks }, pins, σ, H', cls, d, t, l, rfl, ?_, fun b o e hb => ?_, Heap.UpToSlots.of_keeps fun b o e => (og b o e).1, .inr (.inl fl), na, os, ag, hW _ _ _ hE, tx, tn⟩
  · refine I.call (ch := []) ⟨fun b o e n hb _ => gB b o (ub.keep b o e n hb), fun b o e n hb _ => ?_, fun b o e n _ => ub.free b o e n, fun b o e _ => ?_, ub.tups, ub.frzs, ub.tbls⟩ (hok.kept gB) ag (fun _ z => nomatch z)
    · obtain ⟨sl, q⟩ := ub.slot b o e hb
      exact ⟨sl, by rw [gF b hb]; exact q⟩
    · by_cases hb : b ∈ frs X.stack
      · obtain ⟨sl, q⟩ := ub.slot b o e hb
        exact ⟨_, by rw [gF b hb]; exact q⟩
      · obtain ⟨o', q⟩ := ub.there b o e hb
        exact ⟨o', gB b o' q⟩
  · obtain ⟨e', h⟩ := og b o e
    rcases h with h | h
    · obtain ⟨o', q⟩ := Option.isSome_iff_exists.mp h
      have z := st b o' q
      rw [e'] at z; cases z
      exact q
    · exact absurd h hb
theorem XEB.new {a t : Addr} {l : Hl} {oe : Obj} {vs : Array Value} {cls : Value} {d : Option Addr} (I : Inv X pins σ H sI) (k : ∀ b o, sI.heap.get? b = some o → s'.heap.get? b = some o) (hne : sI.heap.get? a = none) (he : s'.heap.get? a = some oe)
    (hz : Zb cls d t l oe) (hd : oe.data = .fields vs) (h1 : vs[1]? = some .none) (na : H a = none) (os : s'.os = sI.os) (ag : AllBare s'.gens) (w : W cls d σ H) (tx : TextAt s'.heap t) (tn : sI.heap.get? t = none) (tH : H t = none)
    (lk : Link l) (cp : ∀ p ∈ l, sI.heap.get? p.1 = some p.2 ∧ H p.1 = none ∧ p.1 ∉ frs X.stack) : XEB X W (.ref a) s' := by
  have fr : ∀ b, b ∈ frs X.stack → ∃ o, sI.heap.get? b = some o := fun b hb => by
    obtain ⟨_, o', e', hd⟩ := I.stack.mem hb
    exact ⟨o', e'⟩
  have mm : ∀ b, b ∉ frs X.stack → b ≠ a → b ∉ a :: frs X.stack := fun b h1 h2 hm => by
    rcases List.mem_cons.mp hm with z | z
    · exact h2 z
    · exact h1 z
  refine ⟨a, PySem.W.hideAll s'.heap (a :: frs X.stack), sI, pins, σ, H, cls, d, t, l, rfl, I, fun b o e hb => PySem.W.hideAll_get _ (k b o e) (mm b hb fun z => by rw [z, hne] at e; cases e), Heap.UpToSlots.of_keeps k,
    .inl ⟨fun b o e => PySem.W.of_hideAll _ e, PySem.W.hideAll_none _ List.mem_cons_self, ?_, oe, vs, he, hz, hd, h1⟩, na, os, ag, w, ?_, tH, lk, fun p hp => ⟨PySem.W.hideAll_get _ (k _ _ (cp p hp).1) (mm p.1 (cp p hp).2.2 fun z => by have q := (cp p hp).1; rw [z, hne] at q; cases q), (cp p hp).2.1⟩⟩
  · exact Heap.FunFrames.of_keeps (fun b o e _ => ⟨o, k b o e, rfl⟩) (funFrames_none I.stack fun b hb => PySem.W.hideAll_none _ (List.mem_cons_of_mem _ hb))
  · obtain ⟨m, tk, o, n, e, hc, hdt⟩ := tx
    refine ⟨m, tk, o, n, PySem.W.hideAll_get _ e (mm t (fun hb => ?_) fun z => ?_), hc, hdt⟩
    · obtain ⟨o', q⟩ := fr t hb
      rw [tn] at q; cases q
    · rw [z, he] at e; cases e
      rw [hd] at hdt; cases hdt
theorem XEB.leave (hs : X.stack = X.env :: X.outer) (hf : X.env.frame = some X.env.locals) (hex : X.ex = []) {E₁ : Value → Shared → Prop} (hW : ∀ cls d σ H, W cls d σ H → E cls d H) {u : Value} (x : XEB X W u s') :
    wpAny (model X.prog X.w) X.A (leaving X.env u) (fun _ s'' => CXB X.prog X.w X.outer X.H_0 X.s_0 E u s'') E₁ s' := by
  obtain ⟨a, B, sI, pins, σ, H, cls, d, t, l, rfl, I, nb, up, sky, na, os, ag, w, tx, tn⟩ := x
  have hfr : X.A.frames = some (X.env :: X.outer) := by rw [I.ok.frames, hs]
  have nst : ∀ b o, X.s_0.heap.get? b = some o → b ∉ X.fs → b ∉ frs X.stack := fun b o e hb hm => by
    rcases List.mem_cons.mp (I.stkSub b hm) with z | z
    · have h1 := Heap.lt_size e
      have h2 := I.ok.above
      rw [z] at h1
      exact absurd (Nat.lt_of_lt_of_le h1 h2) (Nat.lt_irrefl _)
    · exact hb z
  have hex' : ∀ b, b ∉ X.ex := fun b hb => by rw [hex] at hb; cases hb
  have hokB := I.inGround nb
  have fin : ∀ h', HandSPX.FlyingZ B X.outer a (Zb cls d t l) h' → s'.heap.UpToSlots h' → CXB X.prog X.w X.outer X.H_0 X.s_0 E (.ref a) { s' with heap := h' } := fun h' fl up' => by
    refine ⟨a, B, H, cls, d, t, l, rfl, fl, hokB, ⟨fun b o e n hb => nb b o (I.base.keep b o e n hb (hex' b)) (nst b o e hb), fun b o e hb => ?_, fun b o e n => I.base.free b o e n (hex' b), fun b o e hb => ?_, I.base.tups, I.base.frzs, I.base.tbls⟩,
      na, os.trans I.os, ag, hW _ _ _ _ w, tx, tn⟩
    · obtain ⟨_, o₀, e₀, hnf⟩ := I.ok.funs.mem hb
      rw [e] at e₀; cases e₀
      obtain ⟨sl, e1⟩ := I.base.slot b o e (I.ok.frf b hb) hb (hex' b)
      obtain ⟨sl2, e2⟩ := up b _ e1 hnf
      obtain ⟨sl3, e3⟩ := up' b _ e2 hnf
      exact ⟨sl3, e3⟩
    · obtain ⟨o', e1⟩ := I.base.there b o e (hex' b)
      exact ⟨o', nb b o' e1 (nst b o e hb)⟩
  rw [hs] at sky
  rcases sky with ⟨hB, hn, hl, oe, vs, he, hz, hd, h1⟩ | fl | hd
  · exact PXN.leaving_firstZ Zb.steady hfr hl hf he hB hn hd h1 hz fin
  · exact PXN.leaves_onZ Zb.steady hfr hf fl fin
  · exact HandSPX.leaves_heldZ hf hd fin
theorem takesB_of (hs : X.stack = X.env :: X.outer) (hf : X.env.frame = some X.env.locals) (hex : X.ex = []) {E₁ : Value → Shared → Prop}
    (hx : X.xe = fun e s' => wpAny (model X.prog X.w) X.A (leaving X.env e) (fun _ s'' => CXB X.prog X.w X.outer X.H_0 X.s_0 E e s'') E₁ s') : TakesB X (fun cls d _ H => E cls d H) := fun u s' x => by
  rw [hx]
  exact XEB.leave (W := fun cls d _ H => E cls d H) (E := E) hs hf hex (fun _ _ _ _ h => h) x
theorem passesB_call (tk : TakesB X W) (hW : ∀ cls d σ H, E cls d H → W cls d σ H) : ∀ (pins : List (Addr × Obj)) (σ : L2.St) (H : Hp) (s : Shared) (e : Value) (s' : Shared), Inv X pins σ H s → CXB X.prog X.w X.stack H s E e s' → X.xe e s' :=
  fun _ σ _ _ e s' I c => tk e s' (XEB.of_call I (fun cls d H' h => hW cls d σ H' h) c)
theorem passAtB (tk : TakesB X W) (σ : L2.St) : PassesAt (CXB X.prog X.w) X σ (WE W σ) := fun _ _ _ e s' I c => tk e s' (XEB.of_call I (fun _ _ _ h => h) c)
end
section
variable {prog : Program} {w : World} {A : Around} {E : Value → Shared → Prop} {env : Env} {s : Shared}
theorem raise_made_L {x : Sem Value} {Q : Flow → Shared → Prop} {l : Hl}
    (h : wpAny (model prog w) A x (fun v s₁ => ∃ a oe vs cls, v = .ref a ∧ s₁.heap.get? a = some oe ∧ oe.cls = cls ∧ oe.data = .fields vs ∧ vs[1]? = some .none ∧ vs[2]? = some .none ∧ Hand A l ∧ Stand s₁.heap l ∧ (∀ p ∈ l, p.1 ≠ a) ∧
      PySem.W.Looks (model prog w) s₁.heap (isSubtype cls (.type "BaseException")) true ∧ PySem.W.Looks (model prog w) s₁.heap (typeOf cls) (.type "type") ∧ ∀ h', Rsd s₁.heap a oe vs l h' → E (.ref a) { s₁ with heap := h' }) E s) :
    wpAny (model prog w) A (raiseStmt env (some x) none) Q E s := by
  unfold raiseStmt
  dsimp only
  refine wpAny_bind (wpAny_mono h (fun v s₁ h₁ => ?_) fun _ _ x => x)
  obtain ⟨a, oe, vs, cls, rfl, ha, hcls, hd, h1, h2, hot, st, hne, L1, L3, hE⟩ := h₁
  have LT : PySem.W.Looks (model prog w) s₁.heap (typeOf (.ref a)) cls := fun A Q E s k q => wpAny_typeOf_ref (k _ _ ha) (by rw [hcls]; exact q)
  have LI : PySem.W.Looks (model prog w) s₁.heap (isInstance (.ref a) (.type "BaseException")) true := LT.andThen L1
  have hnt : ∀ {Q' : Bool → Shared → Prop}, Q' false s₁ → wpAny (model prog w) A (isType (.ref a)) Q' E s₁ := by
    intro Q' hq
    simp only [isType, loadHead]
    refine wpAny_bind (wpAny_loadPart ha ?_)
    rw [hd]; exact wpAny_pure hq
  refine wpAny_bind (wpAny_pure ?_)
  dsimp only
  refine wpAny_bind (wpAny_holding ?_)
  unfold excFromValue isExcClass
  refine wpAny_bind (wpAny_bind (hnt ?_))
  simp only [Bool.false_eq_true, if_false]
  refine wpAny_pure ?_
  simp only [Bool.false_eq_true, if_false]
  refine wpAny_bind (LI.here ?_)
  simp only [if_true]
  refine wpAny_pure ?_
  refine wpAny_bind (hnt ?_)
  simp only [Bool.false_eq_true, if_false]
  unfold raisedInstance
  refine wpAny_bind (wpAny_bind (LT.here (wpAny_bind (L3.here ?_))))
  rw [if_pos (beq_self_eq_true _)]
  refine wpAny_pure ?_
  unfold setFlight
  refine wpAny_bind (wpAny_bind (wpAny_field ha hd h1 ?_))
  rw [if_neg (by decide)]
  refine wpAny_pure ?_
  exact raiseNew_L hot st hne ha hd h2 hE
theorem raise_made_LN {x c : Sem Value} {Q : Flow → Shared → Prop} {l : Hl}
    (hcs : ∀ (s : Shared) (Q' : Value → Shared → Prop), Q' .none s → wpAny (model prog w) A c Q' E s)
    (h : wpAny (model prog w) A x (fun v s₁ => ∃ a oe vs cls, v = .ref a ∧ s₁.heap.get? a = some oe ∧ oe.cls = cls ∧ oe.data = .fields vs ∧ vs[1]? = some .none ∧ vs[2]? = some .none ∧ 4 < vs.size ∧ Hand A l ∧ Stand s₁.heap l ∧ (∀ p ∈ l, p.1 ≠ a) ∧
      PySem.W.Looks (model prog w) s₁.heap (isSubtype cls (.type "BaseException")) true ∧ PySem.W.Looks (model prog w) (noneFrom s₁.heap a) (typeOf cls) (.type "type") ∧
      ∀ h', Rsd s₁.heap a oe vs l h' → E (.ref a) { s₁ with heap := h' }) E s) :
    wpAny (model prog w) A (raiseStmt env (some x) (some c)) Q E s := by
  unfold raiseStmt
  dsimp only
  refine wpAny_bind (wpAny_mono h (fun v s₁ h₁ => ?_) fun _ _ x => x)
  obtain ⟨a, oe, vs, cls, rfl, ha, hcls, hd, h1, h2, hi, hot, st, hne, L1, L3, hE⟩ := h₁
  have LT : PySem.W.Looks (model prog w) s₁.heap (typeOf (.ref a)) cls := fun A Q E s k q => wpAny_typeOf_ref (k _ _ ha) (by rw [hcls]; exact q)
  have LI : PySem.W.Looks (model prog w) s₁.heap (isInstance (.ref a) (.type "BaseException")) true := LT.andThen L1
  have hnt : ∀ {Q' : Bool → Shared → Prop}, Q' false s₁ → wpAny (model prog w) A (isType (.ref a)) Q' E s₁ := by
    intro Q' hq
    simp only [isType, loadHead]
    refine wpAny_bind (wpAny_loadPart ha ?_)
    rw [hd]; exact wpAny_pure hq
  have hd3 := Obj.data_mapFields hd (·.setIfInBounds 3 .none)
  have ha3 := Heap.get?_update_self (Obj.mapFields (·.setIfInBounds 3 .none)) ha (Obj.isFreed_of_fields hd3)
  obtain ⟨ha4, hd4⟩ := noneFrom_at ha hd
  have s3 : 3 < vs.size := by omega
  have s4 : 4 < (vs.setIfInBounds 3 Value.none).size := by rw [set_size]; exact hi
  have h14 : ((vs.setIfInBounds 3 Value.none).setIfInBounds 4 (Value.bool true))[1]? = some Value.none := set_other (by decide) (set_other (by decide) h1)
  have h24 : ((vs.setIfInBounds 3 Value.none).setIfInBounds 4 (Value.bool true))[2]? = some Value.none := set_other (by decide) (set_other (by decide) h2)
  have hcls4 : ((oe.mapFields (·.setIfInBounds 3 .none)).mapFields (·.setIfInBounds 4 (.bool true))).cls = cls := by rw [Obj.cls_mapFields, Obj.cls_mapFields]; exact hcls
  have LT4 : PySem.W.Looks (model prog w) (noneFrom s₁.heap a) (typeOf (.ref a)) cls := fun A Q E s k q => wpAny_typeOf_ref (k _ _ ha4) (by rw [hcls4]; exact q)
  have hnt4 : ∀ {Q' : Bool → Shared → Prop}, Q' false { s₁ with heap := noneFrom s₁.heap a } → wpAny (model prog w) A (isType (.ref a)) Q' E { s₁ with heap := noneFrom s₁.heap a } := by
    intro Q' hq
    simp only [isType, loadHead]
    refine wpAny_bind (wpAny_loadPart ha4 ?_)
    rw [hd4]; exact wpAny_pure hq
  have st4 : Stand (noneFrom s₁.heap a) l := fun p hp => by rw [noneFrom_other (Ne.symm (hne p hp))]; exact st p hp
  have go : ∀ h', Rsd (noneFrom s₁.heap a) a ((oe.mapFields (·.setIfInBounds 3 .none)).mapFields (·.setIfInBounds 4 (.bool true))) ((vs.setIfInBounds 3 Value.none).setIfInBounds 4 (Value.bool true)) l h' → E (.ref a) { s₁ with heap := h' } := by
    rintro h' ⟨⟨oe', vs', e1, e2, e3, e4, e5, e6, e7⟩, k⟩
    have so : ∀ (ws : Array Value) (i j : Nat) (x : Value), i ≠ j → (ws.setIfInBounds i x)[j]? = ws[j]? := fun ws i j x hij => by
      first
      | exact Array.getElem?_setIfInBounds_ne hij
      | simp [Array.getElem?_setIfInBounds, hij]
    refine hE h' ⟨⟨oe', vs', e1, e2.trans (by rw [Obj.cls_mapFields, Obj.cls_mapFields]), e3.trans (by rw [HandSPX.dict_mapFields, HandSPX.dict_mapFields]), e4, ?_, ?_, e7⟩, fun b nb => (k b nb).trans (noneFrom_other (Ne.symm nb))⟩
    · rw [e5, so _ _ _ _ (by decide), so _ _ _ _ (by decide)]
    · rw [e6, so _ _ _ _ (by decide), so _ _ _ _ (by decide)]
  have rest : wpAny (model prog w) A (do
      let b ← isType (.ref a)
      if b = true then do
        let e ← holding [.ref a] (raisedFor (.ref a) (.ref a))
        setFlight e none
        raiseNew e
      else do
        let e ← raisedInstance (.ref a)
        setFlight e none
        raiseNew e : Sem Flow) Q E { s₁ with heap := noneFrom s₁.heap a } := by
    refine wpAny_bind (hnt4 ?_)
    simp only [Bool.false_eq_true, if_false]
    unfold raisedInstance
    refine wpAny_bind (wpAny_bind (LT4.here (wpAny_bind (L3.here ?_))))
    rw [if_pos (beq_self_eq_true _)]
    refine wpAny_pure ?_
    unfold setFlight
    refine wpAny_bind (wpAny_bind (wpAny_field ha4 hd4 h14 ?_))
    rw [if_neg (by decide)]
    refine wpAny_pure ?_
    exact raiseNew_L hot st4 hne ha4 hd4 h24 go
  refine wpAny_bind (wpAny_holding (hcs _ _ (wpAny_bind (wpAny_pure ?_))))
  dsimp only
  refine wpAny_bind (wpAny_holding ?_)
  unfold excFromValue isExcClass
  refine wpAny_bind (wpAny_bind (hnt ?_))
  simp only [Bool.false_eq_true, if_false]
  refine wpAny_pure ?_
  simp only [Bool.false_eq_true, if_false]
  refine wpAny_bind (LI.here ?_)
  simp only [if_true]
  refine wpAny_pure ?_
  first
  | rw [if_pos (show (Value.none == Value.none) = true from rfl)]
  | (show wpAny _ _ (if (Value.none == Value.none) = true then _ else _) _ _ _; rw [if_pos (show (Value.none == Value.none) = true from rfl)])
  | simp only [beq_self_eq_true, if_true]
  first
  | refine wpAny_bind (wpAny_pure (wpAny_bind (wpAny_setField ha hd s3 (wpAny_bind (wpAny_setField ha3 hd3 s4 ?_)))))
  | refine wpAny_bind (wpAny_pure (wpAny_bind (wpAny_bind (wpAny_setField ha hd s3 (wpAny_bind (wpAny_setField ha3 hd3 s4 ?_))))))
  | refine wpAny_bind (wpAny_bind (wpAny_pure (wpAny_bind (wpAny_setField ha hd s3 (wpAny_setField ha3 hd3 s4 ?_)))))
  first
  | exact rest
  | (dsimp only; exact rest)
  | (refine wpAny_pure ?_; exact rest)
  | (simp only [bind_pure_comp] ; exact rest)
end
section
variable {X : Cx} {W : WX} {e : Expr} {t : L2.St → Hp → XK → Prop} {pos : Pos}
theorem takes_raised {pins : List (Addr × Obj)} {σ : L2.St} {H' : Hp} {sI s1 : Shared} {a tA : Addr} {oe : Obj} {vs : Array Value} {cls : Value} {d : Option Addr} {l : Hl} {h' : Heap} (tk : TakesB X W) (J : Inv X pins σ H' sI) (k : ∀ b o, sI.heap.get? b = some o → s1.heap.get? b = some o) (hne : sI.heap.get? a = none)
    (ha : s1.heap.get? a = some oe) (hz : Za cls d tA oe) (hd : oe.data = .fields vs) (h1 : vs[1]? = some .none) (na : H' a = none) (os : s1.os = sI.os) (ag : AllBare s1.gens) (q : W cls d σ H') (tx : TextAt s1.heap tA) (tn : sI.heap.get? tA = none) (tH : H' tA = none)
    (lk : Link l) (hp : ∀ p ∈ l, p ∈ X.pn) (r : Rsd s1.heap a oe vs l h') : X.xe (.ref a) { s1 with heap := h' } := by
  obtain ⟨⟨oe', vs', e1, e2, e3, e4, e5, e6, e7⟩, kk⟩ := r
  have nt : tA ≠ a := fun z => by
    obtain ⟨m, tk, o, n, e, _, dd⟩ := tx
    rw [z, ha] at e; cases e
    rw [hd] at dd; cases dd
  refine tk _ _ (XEB.new (l := l) J (fun b o e => ?_) hne e1 ⟨⟨e2.trans hz.1.1, e3.trans hz.1.2.1⟩, fun ws ew => ?_, fun ws ew => ?_⟩ e4 (e6.trans h1) na os ag q ?_ tn tH lk fun p hpl => ?_)
  · have nb : b ≠ a := fun z => by rw [z, hne] at e; cases e
    exact (kk b nb).trans (k b o e)
  · rw [e4] at ew; cases ew
    exact e5.trans (hz.2 vs hd)
  · rw [e4] at ew; cases ew
    exact e7
  · obtain ⟨m, tk, o, n, e, c⟩ := tx
    exact ⟨m, tk, o, n, (kk tA nt).trans e, c⟩
  · have P1 := J.pin p (List.mem_append_left _ (hp p hpl))
    exact ⟨P1.1, P1.2.1, fun hm => (List.mem_cons.mp (J.stkSub p.1 hm)).elim P1.2.2.1 P1.2.2.2.1⟩
theorem ps_raiseB (hc : HC X) (tk : TakesB X W) (he : PMkA X e t) : PS X (.Raise (some e) none pos) (fun _ σ H => t σ H fun cls d H' => W cls d σ H') := by
  refine ⟨fun pins s σ H D I h => ?_⟩
  obtain ⟨l, hot, hp⟩ := hc
  show wpAny _ _ (do standAt pos; raiseStmt X.env (some (do let v ← eval e X.env; standAt pos; pure v)) none) _ _ _
  refine wpAny_bind (wpAny_standAt (raise_made_L (l := l) (wpAny_bind (wpAny_mono (he pins s σ H _ I h) (fun u s1 hu => wpAny_bind (wpAny_standAt (wpAny_pure ?_))) fun _ _ x => x))))
  obtain ⟨a, oe, vs, sI, H', cls, d, tA, rfl, J, k, hne, ha, hz, hd, h1, na, os, ag, r, q, tx, tn, tH⟩ := hu
  obtain ⟨r1, r2⟩ := r (model X.prog X.w) s1.heap (J.kIn.keeps k)
  have stI : Stand sI.heap l := fun p h => (J.pin p (List.mem_append_left _ (hp p h))).1
  exact ⟨a, oe, vs, cls, rfl, ha, hz.1.1, hd, h1, hz.1.2.2 vs hd, hot, stI.keeps k, (fun p h z => by have w := stI p h; rw [z, hne] at w; cases w), r1, r2, fun h' r => takes_raised tk J k hne ha hz hd h1 na os ag q tx tn tH hot.2 hp r⟩
def PMkA6 (X : Cx) (e : Expr) (t : L2.St → Hp → XK → Prop) : Prop :=
  ∀ (pins : List (Addr × Obj)) (s : Shared) (σ : L2.St) (H : Hp) (Q : XK), Inv X pins σ H s → t σ H Q → wpAny (model X.prog X.w) X.A (eval e X.env) (fun u s' => MkPA X pins σ Q u s' ∧ L2H.Six u s') X.xe s
theorem ps_raiseBN {j : Nat} {cpos : Pos} (hc : HC X) (tk : TakesB X W) (he : PMkA6 X e t) : PS X (.Raise (some e) (some (.Constant .none j cpos)) pos) (fun _ σ H => t σ H fun cls d H' => W cls d σ H') := by
  refine ⟨fun pins s σ H D I h => ?_⟩
  obtain ⟨l, hot, hp⟩ := hc
  show wpAny _ _ (do standAt pos; raiseStmt X.env (some (do let v ← eval e X.env; standAt pos; pure v)) (some (do let v ← eval (.Constant .none j cpos) X.env; standAt pos; pure v))) _ _ _
  refine wpAny_bind (wpAny_standAt (raise_made_LN (l := l) (fun s2 Q2 q2 => wpAny_bind (PyProof.Rows.Constant_none (wpAny_bind (wpAny_standAt (wpAny_pure q2))))) (wpAny_bind (wpAny_mono (he pins s σ H _ I h) (fun u s1 hu => wpAny_bind (wpAny_standAt (wpAny_pure ?_))) fun _ _ x => x))))
  obtain ⟨⟨a, oe, vs, sI, H', cls, d, tA, rfl, J, k, hne, ha, hz, hd, h1, na, os, ag, r, q, tx, tn, tH⟩, h5⟩ := hu
  have hi : 4 < vs.size := h5 a oe vs rfl ha hd
  have k4 : ∀ b u, sI.heap.get? b = some u → (noneFrom s1.heap a).get? b = some u := fun b u z => by
    have nab : a ≠ b := fun y => by
      rw [← y, hne] at z
      cases z
    rw [noneFrom_other nab]
    exact k b u z
  obtain ⟨r1, _⟩ := r (model X.prog X.w) s1.heap (J.kIn.keeps k)
  obtain ⟨_, r2⟩ := r (model X.prog X.w) (noneFrom s1.heap a) (J.kIn.keeps k4)
  have stI : Stand sI.heap l := fun p h => (J.pin p (List.mem_append_left _ (hp p h))).1
  exact ⟨a, oe, vs, cls, rfl, ha, hz.1.1, hd, h1, hz.1.2.2 vs hd, hi, hot, stI.keeps k, (fun p h z => by have w := stI p h; rw [z, hne] at w; cases w), r1, r2, fun h' r => takes_raised tk J k hne ha hz hd h1 na os ag q tx tn tH hot.2 hp r⟩
theorem pmkA6_str {C : Addr} {bmB : List Value} {Bn newId initId : String} {x : Str} {e : Expr} {te : TE} {p pos : Pos} (F : ExcBaseFacts Bn newId initId bmB) (q : PySem.W.excIn X.K C bmB newId = true) (gC : X.mg x = some (.ref C)) (kC : PySem.W.keepIn X.K (.ref C) = true) (r : Raises X (.ref C)) (hg : Gl X x)
    (he : PE X e te) (hst : starEach [e] X.env = (false, eval e X.env) :: starEach [] X.env := by rfl) (hdb : (x == ("__debug__" : Str)) = false := by decide) : PMkA6 X (.Call (.Name x p) [e] [] pos) (fun σ H Q => te σ H fun v H' => ∃ m, v = V.str m ∧ Q (.ref C) none H') := by
  intro pins s σ H Q I h
  refine wpAny_Call_Name_kw (ld_glob I hg gC ?_ hdb)
  have ha : PA X [e] (tCons te tNil) := pa_cons he pa_nil hst
  refine PySem.W.callWith_K (h₀ := X.base) I.ok.mod.kin kC (thn (ha.run pos pins s σ H (fun vs H1 => match vs with | [v] => ∃ m, v = V.str m ∧ Q (.ref C) none H1 | _ => False) I ?_) fun us s1 hh => ?_) hst
  · exact h
  obtain ⟨vs, H1, I1, r1, q1⟩ := hh
  have ev : ∃ v, vs = [v] := by
    match vs, q1 with
    | [v], _ => exact ⟨v, rfl⟩
  obtain ⟨v, ev⟩ := ev
  subst ev
  obtain ⟨m, ev, q1⟩ := q1
  subst ev
  refine ⟨I1.kIn, ?_⟩
  cases r1 with
  | cons ru rn =>
    rename_i u us'
    cases rn
    obtain ⟨tk, ru⟩ := ru
    subst ru
    show wpAny _ _ (call (.ref C) [.str m tk]) _ _ _
    obtain ⟨bm, N, nm, qn, bs, hdct, sn, sub, ab, col, dd, k0, k1, k2, k3, k5, mN, hC, hN, hni, T⟩ := exc_obj I1.kIn q
    refine wpAny_call_exc_subT F T hC hN hni (fun h' e hm => ?_) (by show 1 ≤ sizeLine; rw [sizeLine_eq]; omega)
    refine ⟨mkA_of I1 hm r q1, fun a oe vs ea hg hd => ?_⟩
    obtain ⟨t, he, _, _⟩ := hm.there
    cases ea
    have he' : h'.get? e = some oe := hg
    rw [he] at he'
    cases he'
    cases hd
    show (4 : Nat) < 6
    decide
end
section
structure FnB (P : Program) (w : World) (K : PySem.W.Frag) (mg : Str → Option Value) (base : Heap) (CX : CXT) (k : Nat) (f : Addr) (fd : FuncData) (ps : List Str) (sp : Sp) : Prop where
  len : ∀ vs H Q E, sp vs H Q E → vs.length = ps.length
  run : ∀ (A : Around) (outer : List Env) (s : Shared) (H : Hp) (args : Args) (us : List Value) (vs : List V) (Q : VK) (E : XK) (l : Hl), L2H.RoomH k A → Hand A l → (∀ p ∈ l, L2H.PinOk outer H s p) → Env0 P w K mg base A outer s H → BindsTo s fd args (ps.zip us) → Vals vs us → sp vs H Q E →
    codeAny (model P w) A (.call (.ref f) args) (CR CX outer P w H s Q E) s
theorem FnB.calm {P : Program} {w : World} {K : PySem.W.Frag} {mg : Str → Option Value} {base : Heap} {CX : CXT} {k : Nat} {f : Addr} {fd : FuncData} {ps : List Str} {sp : Sp} (F : FnB P w K mg base CX k f fd ps sp) : FnOk P w K mg base CX k f fd ps sp :=
  ⟨F.len, fun A outer s H args us vs Q E hr => F.run A outer s H args us vs Q E [] (L2H.roomH_of hr) ⟨hr.hd, trivial⟩ fun _ h => nomatch h⟩
theorem FnB.mono {P : Program} {w : World} {K : PySem.W.Frag} {mg : Str → Option Value} {base : Heap} {CX : CXT} {j k : Nat} {f : Addr} {fd : FuncData} {ps : List Str} {sp : Sp} (F : FnB P w K mg base CX j f fd ps sp) (h : j ≤ k) : FnB P w K mg base CX k f fd ps sp :=
  ⟨F.len, fun A outer s H args us vs Q E l hr => F.run A outer s H args us vs Q E l (hr.mono h)⟩
def cxB (CX : CXT) (P : Program) (w : World) (K : PySem.W.Frag) (mg : Str → Option Value) (base : Heap) (N : List Str) (qual : Str) (scope : Scope) (f : Addr) (cd : Value) (A : Around) (outer : List Env) (s : Shared) (H : Hp) (E : XK) (l : Hl) : Cx :=
  { cxOf CX P w K mg base N qual scope f cd A outer s H E with calm := false, pn := l }
theorem inv_startB {CX : CXT} {P : Program} {w : World} {K : PySem.W.Frag} {mg : Str → Option Value} {base : Heap} {N ps : List Str} {qual : Str} {scope : Scope} {f : Addr} {cd : Value} {A : Around} {outer : List Env} {s s1 : Shared} {H : Hp} {E : XK} {us : List Value} {vs : List V}
    (S : FnScope N ps scope) {l : Hl} (hpin : ∀ p ∈ l, L2H.PinOk outer H s p) (e0 : Env0 P w K mg base A outer s H) (hl : vs.length = ps.length) (r : Vals vs us)
    (x : InCallC s s.heap.objs.size (bindL (envOfC qual scope s.heap.objs.size f cd).kindOf (ps.zip us) fun _ => none) (cellsFrom (s.heap.objs.size + 1) scope.names []) (bindC (envOfC qual scope s.heap.objs.size f cd).kindOf (ps.zip us) fun _ => none) s1) :
    Inv (cxB CX P w K mg base N qual scope f cd A outer s H E l) [] (L2.start N vs) H s1 := by
  have hpl : ps.length ≤ N.length := by have := congrArg List.length S.pre; rw [List.length_take] at this; omega
  obtain ⟨h1, tk, rfl, hk⟩ := x.done
  have noA : ∀ b : Addr, b ∉ (cxB CX P w K mg base N qual scope f cd A outer s H E l).ex := fun b z => absurd (show b ∈ ([] : List Addr) from z) (by simp)
  refine ⟨⟨e0.mod, S.kind, rfl, rfl, Nat.le_refl _, fun y z c h1 h2 => ?_, fun y hy => ?_, fun y c _ h => ?_, (fun z => Bool.noConfusion (show false = true from z)), Around.frames_deeper e0.frames, .inr ⟨rfl, rfl⟩, fun b z => absurd z (noA b), e0.bs, e0.bsz, fun b _ _ => noA b, fun b z => absurd z (noA b), e0.funs, e0.frf⟩,
    rfl, e0.bare, Un.kept hk, ⟨_, x.toInCall.ns, fun i y v h1 h2 h3 => ?_⟩, fun y c h => ⟨_, x.cell y c h⟩, e0.hok.fresh (Nat.le_refl _), fun y c h => ?_, fun q hq => ?_, e0.hok.kept hk, ?_⟩
  · exact name_of_addr x.apart (PySem.mem_of_lookup h1) (PySem.mem_of_lookup h2)
  · have hy : scope.names.lookup y = some .cell ∨ scope.names.lookup y = some .free := hy
    rcases hy with hy | hy
    · exact cell_has hy
    · exact absurd rfl (S.nofree _ (PySem.mem_of_lookup hy))
  · exact Nat.le_of_lt (x.above y c (PySem.mem_of_lookup h))
  · have hi : i < vs.length := by
      unfold L2.start at h2
      by_cases hi : i < vs.length
      · exact hi
      · rw [List.getElem?_append_right (by simpa using hi)] at h2
        rw [List.getElem?_replicate] at h2
        split at h2 <;> cases h2
    have ha : vs[i]? = some v := by
      unfold L2.start at h2
      rw [List.getElem?_append_left (by simpa using hi), List.getElem?_map] at h2
      cases e : vs[i]? with
      | none => rw [e] at h2; cases h2
      | some a => rw [e] at h2; cases h2; rfl
    obtain ⟨u, hu, rv⟩ := r.get ha
    have hp : ps[i]? = some y := by
      rw [← S.pre, List.getElem?_take_of_lt (by omega)]; exact h1
    have ndP : ps.Nodup := by rw [← S.pre]; exact S.nd.sublist (List.take_sublist _ _)
    refine ⟨u, rv, ?_⟩
    rcases S.par y (List.mem_of_getElem? hp) with k | k
    · exact .inl ⟨k, bindL_get ndP hp hu k⟩
    · obtain ⟨c, e⟩ := cell_has (n := s.heap.objs.size + 1) k
      refine .inr ⟨.inl k, c, e, ?_⟩
      have q := x.cell y c e
      rw [bindC_get ndP hp hu (by show scope.names.lookup y ≠ _; rw [k]; decide)] at q
      exact q
  · exact e0.hok.fresh (Nat.le_of_lt (x.above y c (PySem.mem_of_lookup h)))
  · have eq : q ∈ l := by simpa using (show q ∈ l ++ ([] : List (Addr × Obj)) from hq)
    have hpin := hpin q eq
    exact ⟨hk q.1 q.2 hpin.get, hpin.free, Nat.ne_of_lt (Heap.lt_size hpin.get), hpin.nofs, hpin.nocell⟩
  · unfold L2.start
    show _ = N.length
    rw [List.length_append, List.length_map, List.length_replicate]
    omega
theorem fn_ofB {CX : CXT} {P : Program} {w : World} {K : PySem.W.Frag} {mg : Str → Option Value} {base : Heap} {k : Nat} {f : Addr} {name qual : Str} {params : Arguments} {body : List Stmt} {scope : Scope} {dV kV doc pm cdv ct oc : Value} {an od : Option Addr}
    {osl : Array (Option Value)} {N ps : List Str} {sp : Sp} (lk : K.lookup f = some ⟨oc, od, .func (PySem.W.fnOf name qual params body scope dV kV doc pm an cdv ct), osl⟩) (hcd : PySem.W.codeIn K cdv qual = true) (S : FnScope N ps scope)
    (len : ∀ vs H Q E, sp vs H Q E → vs.length = ps.length)
    (hbody : ∀ (A : Around) (outer : List Env) (s : Shared) (H : Hp) (vs : List V) (Q : VK) (E : XK) (l : Hl), Hand A l → L2H.RoomH k (A.deeper (envOfC qual scope s.heap.objs.size f cdv)) → sp vs H Q E →
      ∃ t, PSs (cxB CX P w K mg base N qual scope f cdv A outer s H E l) body t ∧ t { nx := fun _ H' => Q .non H', rt := Q } (L2.start N vs) H) :
    FnB P w K mg base CX (k + 1) f (PySem.W.fnOf name qual params body scope dV kV doc pm an cdv ct) ps sp := by
  refine ⟨len, fun A outer s H args us vs Q E l hr hot hpin e0 hb r hsp => ?_⟩
  have hl := len _ _ _ _ hsp
  have KX : K.In s.heap := e0.mod.kin.keeps fun b o e => (e0.bs b o e).1
  have lim : s.heap.NoLimit := e0.mod.nolimit.keeps fun b o e => (e0.bs b o e).1
  have hkind : ∀ y ∈ ps.zip us, scope.names.lookup y.1 = some .local ∨ (scope.names.lookup y.1 = some .cell ∧ ((cellsFrom (s.heap.objs.size + 1) scope.names []).lookup y.1).isSome = true) := fun ⟨n, v⟩ hy => by
    rcases S.par n (List.of_mem_zip hy).1 with q | q
    · exact .inl q
    · exact .inr ⟨q, PySem.W.cellsFrom_some _ _ _ (.inl q)⟩
  refine codeAny_call_function hr.depth (KX _ _ lk) rfl S.co S.gen rfl (PySem.W.codeRec_of KX hcd) (hb _ _ _ _ ?_)
  refine wpAny_newFunctionEnv_cells S.kind hkind fun env he s1 x => ?_
  subst he
  refine ⟨lim.keeps x.toInCall.keep, codeAny_func ?_⟩
  obtain ⟨t, ht, hq⟩ := hbody A outer s H vs Q E l hot (hr.deeper _) hsp
  have I : Inv (cxB CX P w K mg base N qual scope f cdv A outer s H E l) [] (L2.start N vs) H s1 := inv_startB S hpin e0 hl r x
  refine wpAny_mono (ht.run [] s1 (L2.start N vs) H _ I hq) (fun fl s' hs => ?_) fun e s' hs => hs
  have fin : ∀ {σ' : L2.St} {H' : Hp} {v : V} {u : Value}, Inv (cxB CX P w K mg base N qual scope f cdv A outer s H E l) [] σ' H' s' → RelV v u → Q v H' → CE outer P w H s Q u s' :=
    fun {σ' H' v u} J rv q => ⟨v, H', J.os, J.bare, J.base, J.hok, rv, q⟩
  cases fl with
  | ret u =>
    obtain ⟨v, σ', H', J, rv, q⟩ := hs
    exact fin J rv q
  | next =>
    obtain ⟨σ', H', J, q⟩ := hs
    exact fin (v := V.non) (u := Value.none) J rfl q
  | brk =>
    obtain ⟨_, _, _, q⟩ := hs
    exact False.elim q
  | cont =>
    obtain ⟨_, _, _, q⟩ := hs
    exact False.elim q
end
section
variable {X : Cx} {CX : CXT} {k : Nat} {f C : Addr} {fd : FuncData} {ps : List Str} {sp : Sp} {E : L2.St → XK} {x m : Str} {q pos apos : Pos} {e o : Expr} {es : List Expr} {ta : TE} {t : TA}
theorem run_fnB {pins : List (Addr × Obj)} {σ : L2.St} {H : Hp} {s : Shared} {Q : VK} {us : List Value} {vs : List V} (F : FnB X.prog X.w X.K X.mg X.base CX k f fd ps sp) (hr : L2H.RoomH k X.A) (hc : HC X) (hb : Binds X.K fd ps []) (hx : PassesAt CX X σ (E σ))
    (I : Inv X pins σ H s) (r : Vals vs us) (h : sp vs H Q (E σ)) : wpAny (model X.prog X.w) X.A (call (.ref f) us) (EP X pins σ Q) X.xe s := by
  obtain ⟨l, hot, hp⟩ := hc
  have hl : us.length = ps.length := by rw [← r.length]; exact F.len _ _ _ _ h
  have b := hb s us I.kIn (by rw [List.append_nil]; exact hl)
  rw [List.append_nil] at b
  have hpin : ∀ p ∈ l, L2H.PinOk X.stack H s p := fun p h => by
    have P1 := I.pin p (List.mem_append_left _ (hp p h))
    exact ⟨P1.1, P1.2.1, fun hm => (List.mem_cons.mp (I.stkSub p.1 hm)).elim P1.2.2.1 P1.2.2.2.1, P1.2.2.2.2⟩
  refine wpAny_call (codeAny_mono (F.run X.A X.stack s H ⟨us, []⟩ us vs Q (E σ) l hr hot hpin I.env0 b r h) fun r s' hq => ?_)
  cases r with
  | error e => exact hx pins H s e s' I hq
  | ok fl =>
    cases fl with
    | ret u => exact I.after hq
    | next => exact False.elim hq
    | brk => exact False.elim hq
    | cont => exact False.elim hq
theorem pe_callV (F : FnB X.prog X.w X.K X.mg X.base CX k f fd ps sp) (hr : L2H.RoomH k X.A) (hc : HC X) (hg : Gl X x) (hm : X.mg x = some (.ref f)) (hk : PySem.W.keepIn X.K (.ref f) = true) (hb : Binds X.K fd ps []) (hx : ∀ σ, PassesAt CX X σ (E σ))
    (ha : PA X (e :: es) t) (hdb : (x == ("__debug__" : Str)) = false := by decide) (he : starEach (e :: es) X.env = (false, eval e X.env) :: starEach es X.env := by rfl) (hpl : (backTo pos (starEach es X.env)).any (·.1) = false := by rfl) :
    PE X (.Call (.Name x q) (e :: es) [] pos) (tCallS sp E t) := by
  refine ⟨fun pins s σ H Q I h => ?_⟩
  refine wpAny_Call_Name_kw (ld_glob I hg hm ?_ hdb)
  refine PySem.W.callWith_K (h₀ := X.base) I.ok.mod.kin hk (thn (ha.run pos pins s σ H _ I h) fun us s1 ⟨vs, H1, I1, r, q⟩ => ⟨I1.kIn, ?_⟩) he hpl
  exact run_fnB F hr hc hb (hx σ) I1 r q
theorem pe_methV {pl : Sem Bool} (he : PE X o ta) (c : Cls X.K C) (hm : Meth X.K C m f) (F : FnB X.prog X.w X.K X.mg X.base CX k f fd ps sp) (hr : L2H.RoomH k X.A) (hc : HC X) (hb : Binds X.K fd ps []) (hx : ∀ σ, PassesAt CX X σ (E σ)) (ha : PA X (e :: es) t)
    (hst : starEach (e :: es) X.env = (false, eval e X.env) :: starEach es X.env := by rfl) (hpl : (backTo pos (starEach es X.env)).any (·.1) = false := by rfl)
    (ht : eval (.Call (.Attribute o m apos) (e :: es) [] pos) X.env = (do
      let ov ← eval o X.env
      standAt apos.atName
      let (f, first) ← holding [ov] (getMethod ov m pl)
      callWith pos f first (backTo pos (starEach (e :: es) X.env)) (backToKw pos (keywordEach [] X.env))) := by rfl) :
    PE X (.Call (.Attribute o m apos) (e :: es) [] pos) (tMethS C m sp E ta t) := by
  refine ⟨fun pins s σ H Q I h => ?_⟩
  refine PySem.W.methodCall_KW (pl := pl) (thn (he.run pins s σ H _ I h) fun u s1 ⟨x, H1, I1, rx, a, dx, fs, ex, ea, l, q⟩ => ?_) ht
  subst ex
  obtain rfl : u = Value.ref a := rx
  refine getmeth_ok I1 ea c hm l ?_
  refine PySem.W.callWith_K (first := [.ref a]) (h₀ := X.base) I.ok.mod.kin hm.kp (thn (ha.run pos pins s1 σ H1 _ I1 q) fun us s2 ⟨vs, H2, I2, r, q2⟩ => ⟨I2.kIn, ?_⟩) hst hpl
  exact run_fnB (us := .ref a :: us) (vs := .ref a :: vs) F hr hc hb (hx σ) I2 (.cons rfl r) q2
theorem pe_meth0V {pl : Sem Bool} (he : PE X o ta) (c : Cls X.K C) (hm : Meth X.K C m f) (F : FnB X.prog X.w X.K X.mg X.base CX k f fd ps sp) (hr : L2H.RoomH k X.A) (hc : HC X) (hb : Binds X.K fd ps []) (hx : ∀ σ, PassesAt CX X σ (E σ))
    (ht : eval (.Call (.Attribute o m apos) [] [] pos) X.env = (do
      let ov ← eval o X.env
      standAt apos.atName
      let (f, first) ← holding [ov] (getMethod ov m pl)
      callWith pos f first (backTo pos (starEach [] X.env)) (backToKw pos (keywordEach [] X.env))) := by rfl) :
    PE X (.Call (.Attribute o m apos) [] [] pos) (tMethS C m sp E ta tNil) := by
  refine ⟨fun pins s σ H Q I h => ?_⟩
  refine PySem.W.methodCall_KW (pl := pl) (thn (he.run pins s σ H _ I h) fun u s1 ⟨x, H1, I1, rx, a, dx, fs, ex, ea, l, q⟩ => ?_) ht
  subst ex
  obtain rfl : u = Value.ref a := rx
  refine getmeth_ok I1 ea c hm l ?_
  exact PySem.W.callWith_K0 (first := [.ref a]) I1.kIn hm.kp (run_fnB (us := [.ref a]) (vs := [.ref a]) F hr hc hb (hx σ) I1 (.cons rfl .nil) q)
theorem run_makeB {pins : List (Addr × Obj)} {σ : L2.St} {H : Hp} {s : Shared} {Q : VK} {us : List Value} {vs : List V} (M : Mk X.K C f) (F : FnB X.prog X.w X.K X.mg X.base CX k f fd ps sp) (hr : L2H.RoomH (k + 1) X.A) (hc : HC X) (hb : Binds X.K fd ps [])
    (hx : PassesAt CX X σ (E σ)) (I : Inv X pins σ H s) (r : Vals vs us)
    (h : ∀ x dx, H x = none → H dx = none → dx ≠ x → sp (.ref x :: vs) (upd (upd H dx (.own x)) x (.ins C dx [])) (fun v H2 => v = .non ∧ Q (.ref x) H2) (E σ)) :
    wpAny (model X.prog X.w) X.A (call (.ref C) us) (EP X pins σ Q) X.xe s := by
  obtain ⟨l, hot, hp⟩ := hc
  have hq := h (s.heap.objs.size + 1) s.heap.objs.size (I.hok.fresh (Nat.le_succ _)) (I.hok.fresh (Nat.le_refl _)) (Nat.ne_of_lt (Nat.lt_succ_self _))
  have I2 := Inv.made (C := C) I
  have r2 : Vals (V.ref (s.heap.objs.size + 1) :: vs) (Value.ref (s.heap.objs.size + 1) :: us) := .cons rfl r
  have hl : (Value.ref (s.heap.objs.size + 1) :: us).length = ps.length := by
    have e := r2.length
    rw [F.len _ _ _ _ hq] at e
    exact e.symm
  have b := hb _ (Value.ref (s.heap.objs.size + 1) :: us) I2.kIn (by rw [List.append_nil]; exact hl)
  rw [List.append_nil] at b
  refine wpAny_call (make_map (f := f) I.kIn M.makes M.init (beq_iff_eq.mp M.fn) (codeAny_mono (F.run _ X.stack _ _ ⟨Value.ref (s.heap.objs.size + 1) :: us, []⟩ (Value.ref (s.heap.objs.size + 1) :: us) _ _ (E σ) l (hr.make C us []) hot (fun p h => ?_)
    (I2.env0.make C us []) b r2 hq) fun r s' hq' => ?_))
  · have P1 := I2.pin p (List.mem_append_left _ (hp p h))
    exact ⟨P1.1, P1.2.1, fun hm => (List.mem_cons.mp (I2.stkSub p.1 hm)).elim P1.2.2.1 P1.2.2.2.1, P1.2.2.2.2⟩
  cases r with
  | error e => exact hx pins _ _ e s' I2 hq'
  | ok fl =>
    cases fl with
    | ret u =>
      obtain ⟨v, H', I3, rv, ev, q3⟩ := I2.after hq'
      subst ev
      exact ⟨rv, ⟨V.ref (s.heap.objs.size + 1), H', I3, rfl, q3⟩⟩
    | next => exact False.elim hq'
    | brk => exact False.elim hq'
    | cont => exact False.elim hq'
theorem pe_makeV (M : Mk X.K C f) (F : FnB X.prog X.w X.K X.mg X.base CX k f fd ps sp) (hr : L2H.RoomH (k + 1) X.A) (hc : HC X) (hg : Gl X x) (hm : X.mg x = some (.ref C)) (hb : Binds X.K fd ps []) (hx : ∀ σ, PassesAt CX X σ (E σ))
    (ha : PA X (e :: es) t) (hdb : (x == ("__debug__" : Str)) = false := by decide) (he : starEach (e :: es) X.env = (false, eval e X.env) :: starEach es X.env := by rfl) (hpl : (backTo pos (starEach es X.env)).any (·.1) = false := by rfl) :
    PE X (.Call (.Name x q) (e :: es) [] pos) (tMakeS C sp E t) := by
  refine ⟨fun pins s σ H Q I h => ?_⟩
  refine wpAny_Call_Name_kw (ld_glob I hg hm ?_ hdb)
  refine PySem.W.callWith_K (h₀ := X.base) I.ok.mod.kin M.kp (thn (ha.run pos pins s σ H _ I h) fun us s1 ⟨vs, H1, I1, r, q⟩ => ⟨I1.kIn, ?_⟩) he hpl
  exact run_makeB M F hr hc hb (hx σ) I1 r q
end
end Mm
namespace Mm
open PySem PySem.Spec L2 HotX
open PyProof.Rows (envOfC AllBare)
theorem Link.nocell : ∀ {l : Hl}, Link l → ∀ p ∈ l, ∀ v, p.2.data ≠ .cell v
  | [], _, _, h, _ => nomatch h
  | q :: l, ⟨⟨vs, d, _⟩, L⟩, p, h, v => by
    rcases List.mem_cons.mp h with e | h
    · rw [e, d]; intro z; cases z
    · exact Link.nocell L p h v
section
variable {X : Cx} {pins : List (Addr × Obj)} {σ : L2.St} {H : Hp} {s : Shared}
theorem Inv.topins (I : Inv X pins σ H s) : ∀ {l : Hl}, (∀ p ∈ l, s.heap.get? p.1 = some p.2 ∧ H p.1 = none ∧ p.1 ≠ X.env.locals ∧ p.1 ∉ X.fs ∧ ∀ v, p.2.data ≠ .cell v) → Inv X (l ++ pins) σ H s
  | [], _ => I
  | p :: l, h => Inv.topin (Inv.topins I fun q hq => h q (.tail _ hq)) (h p (.head _))
theorem Inv.unpins : ∀ {l : Hl}, Inv X (l ++ pins) σ H s → Inv X pins σ H s
  | [], I => I
  | _ :: _, I => Inv.unpins (Inv.unpin I)
end
section
variable {X : Cx} {n : Str} {i : Nat} {Wout : WX} {a : Addr} {q : Addr × Obj} {pins : List (Addr × Obj)} {pos : Pos}
theorem takes_suiteB (ok : X.Ok) (hs : X.stack = X.env :: X.outer) (hf : X.env.frame = some X.env.locals) (hN : X.N.Nodup) (hi : X.N[i]? = some n) (hln : X.env.kindOf n = some .local) (tk : TakesB X Wout) :
    TakesB (suiteY X a (q :: (X.pn ++ pins)) (AsSuiteRaised (model X.prog X.w) (X.A.mark (some (.ref a))) X.env n pos (notedBy (model X.prog X.w) (X.A.mark (some (.ref a))) X.env (cameBackBy (model X.prog X.w) X.A X.env X.xe))))
      (fun cls d σ H => Wout cls d (σ.set i none) H) := by
  intro u s' x
  obtain ⟨a2, B2, sI2, pn2, σ2, H2, cls2, d2, t2x, l2x, rfl, I2, nb2, up2, sky2, na2, os2, ag2, w2, tx2, tn2, cx2⟩ := x
  have hfr : (X.A.mark (some (.ref a))).frames = some (X.env :: X.outer) := by
    have z : X.A.frames = some (X.env :: X.outer) := by rw [ok.frames, hs]
    exact z
  have hcls : (X.env.scope.kind == .class || (X.env.scope.kind == .module && X.env.locals != X.env.globals)) = false := by rw [ok.kind]; rfl
  have sky2 : Sky B2 (X.env :: X.outer) a2 (Zb cls2 d2 t2x l2x) X.env.locals s'.heap := by rw [← hs]; exact sky2
  have hLf : X.env.locals ∈ frs X.stack := by
    rw [hs]
    exact List.mem_filterMap.mpr ⟨X.env, List.mem_cons_self, hf⟩
  show wpAny (model X.prog X.w) (X.A.mark (some (.ref a))) (noteFrame (.ref a2) X.env) _ _ s'
  have fin : ∀ h1, HandSPX.HeldZ B2 (X.env :: X.outer) a2 (Zb cls2 d2 t2x l2x) X.env.locals h1 → s'.heap.UpToSlots h1 →
      wpAny (model X.prog X.w) (X.A.mark (some (.ref a))) (do bindName X.env n .none; unbindBehindTheSuite X.env n pos)
        (fun _ s₂ => wpAny (model X.prog X.w) (X.A.mark (some (.ref a))) (passOn "try.except-as" (.ref a2) X.env : Sem Flow) (fun _ _ => False) (notedBy (model X.prog X.w) (X.A.mark (some (.ref a))) X.env (cameBackBy (model X.prog X.w) X.A X.env X.xe)) s₂)
        (fun y s₂ => wpAny (model X.prog X.w) (X.A.mark (some (.ref a))) (setFlight (.ref a2) none) (fun _ s₃ => notedBy (model X.prog X.w) (X.A.mark (some (.ref a))) X.env (cameBackBy (model X.prog X.w) X.A X.env X.xe) y s₃) (notedBy (model X.prog X.w) (X.A.mark (some (.ref a))) X.env (cameBackBy (model X.prog X.w) X.A X.env X.xe)) s₂) { s' with heap := h1 } := by
    intro h1 hh1 up1
    obtain ⟨b1, b0, f1, t1⟩ := hh1
    have up21 := up2.trans up1
    have notB : ∀ b, b ∈ frs X.stack → B2.get? b = none := fun b hb => by
      rw [hs] at hb
      exact (f1.mem hb).1
    obtain ⟨G1, g1, g1n⟩ := restrict h1 fun b => (B2.get? b).isSome || decide (b ∈ frs X.stack)
    have pB : ∀ b o, B2.get? b = some o → ((B2.get? b).isSome || decide (b ∈ frs X.stack)) = true := fun b o e => by simp [e]
    have pF : ∀ b, b ∈ frs X.stack → ((B2.get? b).isSome || decide (b ∈ frs X.stack)) = true := fun b hb => by simp [hb]
    have st1 : B2.StaysIn G1 := fun b o e => by rw [g1 b (pB b o e)]; exact b1 b o e
    have upG : sI2.heap.UpToSlots G1 := fun b o e hnf => by
      by_cases hb : b ∈ frs X.stack
      · obtain ⟨sl, z⟩ := up21 b o e hnf
        exact ⟨sl, by rw [g1 b (pF b hb)]; exact z⟩
      · exact ⟨o.slots, st1 b o (nb2 b o e hb)⟩
    have J1 := I2.landed (s' := { s' with heap := G1 }) nb2 st1 upG os2 ag2
    obtain ⟨m, hn0, hlk⟩ := id J1.loc
    have hn : h1.Ns X.env.locals m := by
      obtain ⟨o, es, ep, e, r⟩ := hn0
      exact ⟨o, es, ep, by rw [← g1 _ (pF _ hLf)]; exact e, r⟩
    refine PySem.wpAny_nameGoes_keeps hln hn hcls fun h2 v hn2 hs2 => ?_
    have b2 : B2.StaysIn h2 := fun b o e => (hs2.2 b fun z => by rw [z, notB _ hLf] at e; cases e).trans (b1 b o e)
    have f2 : h2.FunFrames B2 (X.env :: X.outer) := funFrames_but hs2.2 hn2 f1
    have t2 : HandSPX.TracedZ h2 B2 a2 (Zb cls2 d2 t2x l2x) (rawInt X.env.locals) := tracedZ_but t1 hn hs2.2
    obtain ⟨G2, g2, g2n⟩ := restrict h2 fun b => (B2.get? b).isSome || decide (b ∈ frs X.stack)
    have st2 : B2.StaysIn G2 := fun b o e => by rw [g2 b (pB b o e)]; exact b2 b o e
    have hnG : G2.Ns X.env.locals (fun x => if x = n then v else m x) := by
      obtain ⟨o, es, ep, e, r⟩ := hn2
      exact ⟨o, es, ep, by rw [g2 _ (pF _ hLf)]; exact e, r⟩
    have J2 := Inv.gone (h' := G2) (v := v) (tk := s'.toks + 1) J1 hN hi hlk hnG fun b hb => by
      cases p : ((B2.get? b).isSome || decide (b ∈ frs X.stack)) with
      | true => exact (g2 b p).trans ((hs2.2 b hb).trans (g1 b p).symm)
      | false => exact (g2n b p).trans (g1n b p).symm
    have J3 := unsuiteY J2 ok
    have og : ∀ b o, G2.get? b = some o → h2.get? b = some o ∧ ((B2.get? b).isSome = true ∨ b ∈ frs X.stack) := fun b o e => by
      cases q : ((B2.get? b).isSome || decide (b ∈ frs X.stack)) with
      | false => rw [g2n b q] at e; cases e
      | true =>
        rw [g2 b q] at e
        exact ⟨e, by simpa [Bool.or_eq_true] using q⟩
    obtain ⟨oe, vs, T, oT, ts, he, hz, hd, h1', r⟩ := id t2
    unfold PySem.passOn
    refine wpAny_bind (wpAny_field he hd h1' ?_)
    rw [if_neg (show ¬ ((Value.ref T == Value.none) = true) from by simp)]
    rw [hf]
    have held : HandSPX.HeldZ B2 (X.env :: X.outer) a2 (Zb cls2 d2 t2x l2x) X.env.locals h2 := ⟨b2, b0, f2, t2⟩
    refine wpAny_bind (HandSPX.setFlight_onZ held fun h3 hh3 up3 => ?_)
    refine wpAny_throw ?_
    show wpAny (model X.prog X.w) (X.A.mark (some (.ref a))) (noteFrame (.ref a2) X.env) _ _ _
    refine HandSPX.againZ hf hh3.2.2.2 ?_
    obtain ⟨oe', vs', T', oT', ts', he', hz', hd', h1'', r'⟩ := id hh3.2.2.2
    show wpAny (model X.prog X.w) X.A (do
      if (← field (.ref a2) 1) == .none then unsupported "frame.own-activation:exception-without-traceback"
      setFlight (.ref a2) X.env.frame) _ _ _
    refine wpAny_bind (wpAny_field he' hd' h1'' ?_)
    rw [if_neg (show ¬ ((Value.ref T' == Value.none) = true) from by simp)]
    rw [hf]
    refine HandSPX.setFlight_onZ hh3 fun h4 hh4 up4 => ?_
    refine tk _ _ ⟨a2, B2, _, _, _, H2, cls2, d2, t2x, l2x, rfl, J3, fun b o e hb => ?_, (Heap.UpToSlots.of_keeps fun b o e => (og b o e).1).trans (up3.trans up4), .inr (.inr (by rw [hs]; exact hh4)), na2, rfl, ag2, w2, tx2, tn2, cx2⟩
    obtain ⟨e', h⟩ := og b o e
    rcases h with h | h
    · obtain ⟨o', q⟩ := Option.isSome_iff_exists.mp h
      have z := st2 b o' q
      rw [e] at z; cases z
      exact q
    · exact absurd h hb
  rcases sky2 with ⟨hB, hn, hl, oe, vs, he, hz, hd, h1⟩ | fl | hh
  · exact PXN.look_newZ Zb.steady hfr hl hf he hB hn hd h1 hz fin
  · exact PXN.looks_onZ Zb.steady hfr hf fl fin
  · exact HandSPX.againZ hf hh.2.2.2 (fin s'.heap hh (Heap.UpToSlots.refl _))
end
section
variable {X : Cx} {x n : Str} {c : Value} {i : Nat} {body suite : List Stmt} {b₀ : Stmt} {np pos pos' : Pos} {tb : WX → TS} {ts : Addr → Value → Option Addr → TS} {Wout : WX}
theorem ps_try_asB (hs : X.stack = X.env :: X.outer) (hf : X.env.frame = some X.env.locals) (hN : X.N.Nodup) (hi : X.N[i]? = some n) (hln : X.env.kindOf n = some .local) (hc : Names X x c) (tk : TakesB X Wout)
    (hb : ∀ (W : WX) (pn : List (Addr × Obj)) (xe : Value → Shared → Prop), (∀ q ∈ X.pn, q ∈ pn) → TakesB (X.tr pn xe) W → PassesOwn (model X.prog X.w) X.A X.env xe → PSs (X.tr pn xe) body (tb W))
    (hsu : ∀ (a : Addr) (cls : Value) (d : Option Addr) (pn : List (Addr × Obj)) (xe : Value → Shared → Prop), (∀ C, cls = .ref C → HeldT (suiteY X a pn xe) C a) → TakesB (suiteY X a pn xe) (fun cls d σ H => Wout cls d (σ.set i none) H) → HC (suiteY X a pn xe) →
      PSs (suiteY X a pn xe) (b₀ :: suite) (ts a cls d)) :
    PS X (.Try body [.ExceptHandler (some (.Name x np)) (some n) (b₀ :: suite) pos'] [] [] pos) (fun D σ H => tb (wAs X.K c i ts Wout D) D σ H) := by
  refine ⟨fun pins s σ H D I h => ?_⟩
  have ok := I.ok
  have hfr : X.A.frames = some (X.env :: X.outer) := by rw [ok.frames, hs]
  have hloc : Loc X.env.scope n := .inl hln
  refine wpAny_Try_except ?_
  refine wpAny_mono ((hb (wAs X.K c i ts Wout D) (X.pn ++ pins) (fun e s₁ => wpAny (model X.prog X.w) X.A (noteFrame e X.env) (fun _ s₂ => wpAny (model X.prog X.w) X.A (setFlight e none) (fun _ s₃ =>
    wpAny (model X.prog X.w) X.A (handleBy e X.env [.ExceptHandler (some (.Name x np)) (some n) (b₀ :: suite) pos']) (SP X pins D) X.xe s₃) X.xe s₂) X.xe s₁) (fun q hq => List.mem_append_left _ hq) (fun u s' xx => ?_) PassesOwn.looking).run [] s σ H D (I.toTry _) h) (fun f s1 hsp => ?_) (fun e s1 he => he)
  · -- the catch
    obtain ⟨a, B, sI, pins', σ', H', cls, d, t, l, rfl, J', nb, up, sky, na, os, ag, w, tx, tn, cx⟩ := xx
    obtain ⟨b, hb1, hyes, hno⟩ := w
    have J : Inv X pins σ' H' sI := J'.ofTry ok
    have sky' : Sky B (X.env :: X.outer) a (Zb cls d t l) X.env.locals s'.heap := by rw [← hs]; exact sky
    show wpAny (model X.prog X.w) X.A (noteFrame (.ref a) X.env) _ _ _
    refine L2N.Sky.land Zb.steady hfr hf sky' fun h3 fl3 up3 => ?_
    have J3 : Inv X pins σ' H' { s' with heap := h3 } := J.landed nb fl3.1 (up.trans up3) os ag
    obtain ⟨oe3, vs3, he3, hz3, hd3⟩ := fl3.there
    have notFr : ∀ {h : Heap} {o : Obj} {vs : Array Value}, h.FunFrames B (X.env :: X.outer) → h.get? a = some o → o.data = .fields vs → a ∉ frs (X.env :: X.outer) := fun {h o vs} ff e dd hm => by
      obtain ⟨_, o', e', hnf⟩ := ff.mem hm
      rw [e] at e'; cases e'
      exact hnf _ dd
    have nfr := notFr fl3.2.2.1 he3 hd3
    have nL : a ≠ X.env.locals := fun z => nfr (List.mem_filterMap.mpr ⟨X.env, List.mem_cons_self, by rw [hf, z]⟩)
    have nF : a ∉ X.fs := fun hm => by
      obtain ⟨e, he, q⟩ := List.mem_filterMap.mp hm
      exact nfr (List.mem_filterMap.mpr ⟨e, List.mem_cons_of_mem _ he, q⟩)
    have S3 := J3.suite he3 hd3 na nL nF
    refine wpAny_handleBy_cons (codeAny_handlers_test ?_) (by intro q; cases q)
    have LT : PySem.W.Looks (model X.prog X.w) h3 (typeOf (.ref a)) cls := fun A Q E s k q => wpAny_typeOf_ref (k _ _ he3) (by rw [hz3.1.1]; exact q)
    have LM := PySem.W.exm_one (M := model X.prog X.w) (J3.kIn) LT hb1
    have test : ∀ {Q : Value → Shared → Prop} {E : Value → Shared → Prop}, Q c { s' with heap := h3 } → wpAny (model X.prog X.w) (X.A.mark (some (.ref a))) (eval (.Name x np) X.env) Q E { s' with heap := h3 } := fun {Q E} q => by
      obtain ⟨hg, hdbg, hm | ⟨hm, hv, hnn⟩⟩ := hc
      · exact ld_glob (X := X.suite a ((a, oe3) :: (X.pn ++ pins))) S3 hg hm q hdbg
      · exact ld_blt (X := X.suite a ((a, oe3) :: (X.pn ++ pins))) S3 hg hm hv q hnn hdbg
    refine test (LM.here ?_)
    cases b with
    | true =>
      refine codeAny_handlers_suite_as ?_
      refine HandSPX.lands_againZ fl3 fun h4 fl4 up4 => ?_
      obtain ⟨m, tk4, ot, k4, et, hct, hdt⟩ := tx
      have frB : ∀ b, b ∈ frs (X.env :: X.outer) → B.get? b = none := fun b hb => (fl4.2.2.1.mem hb).1
      have J40 := J.landed (pins := pins) (s' := { s' with heap := h4 }) nb fl4.1 ((up.trans up3).trans up4) os ag
      have pin1 : ∀ (p : Addr) (o : Obj), B.get? p = some o → H' p = none → (∀ v, o.data ≠ .cell v) → h4.get? p = some o ∧ H' p = none ∧ p ≠ X.env.locals ∧ p ∉ X.fs ∧ ∀ v, o.data ≠ .cell v := fun p o e n nc => by
        have nf : p ∉ frs (X.env :: X.outer) := fun hm => by
          have z := frB p hm
          rw [e] at z; cases z
        exact ⟨fl4.1 _ _ e, n, fun z => nf (List.mem_filterMap.mpr ⟨X.env, List.mem_cons_self, by rw [hf]; exact congrArg some z.symm⟩), fun hm => by
          obtain ⟨e, he, q⟩ := List.mem_filterMap.mp hm
          exact nf (List.mem_filterMap.mpr ⟨e, List.mem_cons_of_mem _ he, q⟩), nc⟩
      have J4 : Inv X ((t, ot) :: (l ++ pins)) σ' H' { s' with heap := h4 } := Inv.topin (Inv.topins J40 fun p hp => pin1 p.1 p.2 (cx.2 p hp).1 (cx.2 p hp).2 (Link.nocell cx.1 p hp)) (pin1 t ot et tn fun v z => by rw [hdt] at z; cases z)
      obtain ⟨oe4, vs4, he4, hz4, hd4⟩ := fl4.there
      have S4 := J4.suite he4 hd4 na nL nF
      refine store_ok (X := X.suite a ((a, oe4) :: (X.pn ++ (t, ot) :: (l ++ pins)))) (v := .ref a) S4 hN hi hloc rfl (fun s5 S5 => ?_) (.inr hln)
      refine wpAny_mono ((hsu a cls d ((a, oe4) :: (X.pn ++ (t, ot) :: (l ++ pins))) _ (fun C e => ⟨oe4, t, ot, vs4, m, tk4, k4, List.mem_cons_self, List.mem_cons_of_mem _ (List.mem_append_right _ List.mem_cons_self), hz4.1.1.trans e, hd4, hz4.2.1 _ hd4, hct, hdt⟩)
        (takes_suiteB (pos := pos') ok hs hf hN hi hln tk) ⟨(a, oe4) :: l, ⟨rfl, ⟨vs4, hd4, hz4.2.2 _ hd4⟩, cx.1⟩, fun p hp => (List.mem_cons.mp hp).elim (fun e => by rw [e]; exact List.mem_cons_self) fun h => List.mem_cons_of_mem _ (List.mem_append_right _ (List.mem_cons_of_mem _ (List.mem_append_left _ h)))⟩).run [] s5 _ H' _ (suiteY_of S5) (hyes rfl a na)) (fun f s6 hsp => ?_) (fun _ _ z => z)
      have end_ : ∀ {σ6 : L2.St} {H6 : Hp} {Q : Shared → Prop} {E₂ : Value → Shared → Prop}, Inv (suiteY X a ((a, oe4) :: (X.pn ++ (t, ot) :: (l ++ pins))) (AsSuiteRaised (model X.prog X.w) (X.A.mark (some (.ref a))) X.env n pos' (notedBy (model X.prog X.w) (X.A.mark (some (.ref a))) X.env (cameBackBy (model X.prog X.w) X.A X.env X.xe)))) [] σ6 H6 s6 → (∀ s7, Inv X pins (σ6.set i none) H6 s7 → Q s7) →
          wpAny (model X.prog X.w) X.A (do bindName X.env n .none; unbindBehindTheSuite X.env n pos') (fun _ s7 => Q s7) E₂ s6 := fun {σ6 H6 Q E₂} S6 hq => gone_ok (Inv.unpins (Inv.unpin (unsuiteY S6 ok))) hN hi hln hq
      cases f with
      | next =>
        obtain ⟨σ6, H6, S6, q6⟩ := hsp
        exact end_ S6 fun s7 J7 => ⟨_, _, J7, q6⟩
      | brk =>
        obtain ⟨σ6, H6, S6, q6⟩ := hsp
        exact end_ S6 fun s7 J7 => ⟨_, _, J7, q6⟩
      | cont =>
        obtain ⟨σ6, H6, S6, q6⟩ := hsp
        exact end_ S6 fun s7 J7 => ⟨_, _, J7, q6⟩
      | ret u =>
        obtain ⟨v6, σ6, H6, S6, r6, q6⟩ := hsp
        exact end_ S6 fun s7 J7 => ⟨_, _, _, J7, r6, q6⟩
    | false =>
      show wpAny _ X.A (handleBy (.ref a) X.env []) _ _ _
      refine wpAny_handleBy_nil ?_
      obtain ⟨k1, k2, k3, oe, vs, T, oT, ts', he, hz, hd, h1, hr⟩ := id fl3
      unfold PySem.passOn
      refine wpAny_bind (wpAny_field he hd h1 ?_)
      rw [if_neg (show ¬ ((Value.ref T == Value.none) = true) from by simp)]
      have fin : wpAny (model X.prog X.w) X.A (setFlight (.ref a) X.env.frame) (fun _ s4 => wpAny (model X.prog X.w) X.A (throw (.ref a) : Sem Flow) (SP X pins D) X.xe s4) X.xe { s' with heap := h3 } := by
        rw [hf]
        refine HandSPX.setFlight_upZ fl3 fun h4 hh4 up4 => wpAny_throw (tk _ _ ?_)
        exact ⟨a, B, sI, pins, σ', H', cls, d, t, l, rfl, J, nb, (up.trans up3).trans up4, .inr (.inr (by rw [hs]; exact hh4)), na, os, ag, hno rfl, tx, tn, cx⟩
      first
        | exact wpAny_bind (wpAny_pure (wpAny_bind fin))
        | exact wpAny_bind fin
  · cases f with
    | next =>
      obtain ⟨σ', H', J', q⟩ := hsp
      exact wpAny_execs_nil ⟨σ', H', J'.ofTry ok, q⟩
    | brk =>
      obtain ⟨σ', H', J', q⟩ := hsp
      exact ⟨σ', H', J'.ofTry ok, q⟩
    | cont =>
      obtain ⟨σ', H', J', q⟩ := hsp
      exact ⟨σ', H', J'.ofTry ok, q⟩
    | ret u =>
      obtain ⟨v, σ', H', J', r, q⟩ := hsp
      exact ⟨v, σ', H', J'.ofTry ok, r, q⟩
end
section
variable {X : Cx} {x : Str} {c : Value} {body suite : List Stmt} {b₀ : Stmt} {np pos pos' : Pos} {tb : WX → TS} {ts : Addr → Value → Option Addr → TS} {Wout : WX}
theorem ps_try_onlyB (hs : X.stack = X.env :: X.outer) (hf : X.env.frame = some X.env.locals) (hc : Names X x c) (tk : L2.Takes X Wout)
    (hb : ∀ (W : WX) (pn : List (Addr × Obj)) (xe : Value → Shared → Prop), (∀ q ∈ X.pn, q ∈ pn) → TakesB (X.tr pn xe) W → PassesOwn (model X.prog X.w) X.A X.env xe → PSs (X.tr pn xe) body (tb W))
    (hsu : ∀ (a : Addr) (cls : Value) (d : Option Addr) (pn : List (Addr × Obj)), HC (X.suite a pn) → PSs (X.suite a pn) (b₀ :: suite) (ts a cls d)) :
    PS X (.Try body [.ExceptHandler (some (.Name x np)) none (b₀ :: suite) pos'] [] [] pos) (fun D σ H => tb (wOnly X.K c ts Wout D) D σ H) := by
  refine ⟨fun pins s σ H D I h => ?_⟩
  have ok := I.ok
  have hfr : X.A.frames = some (X.env :: X.outer) := by rw [ok.frames, hs]
  refine wpAny_Try_except ?_
  refine wpAny_mono ((hb (wOnly X.K c ts Wout D) (X.pn ++ pins) (fun e s₁ => wpAny (model X.prog X.w) X.A (noteFrame e X.env) (fun _ s₂ => wpAny (model X.prog X.w) X.A (setFlight e none) (fun _ s₃ =>
    wpAny (model X.prog X.w) X.A (handleBy e X.env [.ExceptHandler (some (.Name x np)) none (b₀ :: suite) pos']) (SP X pins D) X.xe s₃) X.xe s₂) X.xe s₁) (fun q hq => List.mem_append_left _ hq) (fun u s' xx => ?_) PassesOwn.looking).run [] s σ H D (I.toTry _) h) (fun f s1 hsp => ?_) (fun e s1 he => he)
  · -- the catch
    obtain ⟨a, B, sI, pins', σ', H', cls, d, t, l, rfl, J', nb, up, sky, na, os, ag, w, tx, tn, cx⟩ := xx
    obtain ⟨b, hb1, hyes, hno⟩ := w
    have J : Inv X pins σ' H' sI := J'.ofTry ok
    have sky' : Sky B (X.env :: X.outer) a (Zb cls d t l) X.env.locals s'.heap := by rw [← hs]; exact sky
    show wpAny (model X.prog X.w) X.A (noteFrame (.ref a) X.env) _ _ _
    refine L2N.Sky.land Zb.steady hfr hf sky' fun h3 fl3 up3 => ?_
    have J3 : Inv X pins σ' H' { s' with heap := h3 } := J.landed nb fl3.1 (up.trans up3) os ag
    obtain ⟨oe3, vs3, he3, hz3, hd3⟩ := fl3.there
    have notFr : ∀ {h : Heap} {o : Obj} {vs : Array Value}, h.FunFrames B (X.env :: X.outer) → h.get? a = some o → o.data = .fields vs → a ∉ frs (X.env :: X.outer) := fun {h o vs} ff e dd hm => by
      obtain ⟨_, o', e', hnf⟩ := ff.mem hm
      rw [e] at e'; cases e'
      exact hnf _ dd
    have nfr := notFr fl3.2.2.1 he3 hd3
    have nL : a ≠ X.env.locals := fun z => nfr (List.mem_filterMap.mpr ⟨X.env, List.mem_cons_self, by rw [hf, z]⟩)
    have nF : a ∉ X.fs := fun hm => by
      obtain ⟨e, he, q⟩ := List.mem_filterMap.mp hm
      exact nfr (List.mem_filterMap.mpr ⟨e, List.mem_cons_of_mem _ he, q⟩)
    have S3 := J3.suite he3 hd3 na nL nF
    refine wpAny_handleBy_cons (codeAny_handlers_test ?_) (by intro q; cases q)
    have LT : PySem.W.Looks (model X.prog X.w) h3 (typeOf (.ref a)) cls := fun A Q E s k q => wpAny_typeOf_ref (k _ _ he3) (by rw [hz3.1.1]; exact q)
    have LM := PySem.W.exm_one (M := model X.prog X.w) (J3.kIn) LT hb1
    have test : ∀ {Q : Value → Shared → Prop} {E : Value → Shared → Prop}, Q c { s' with heap := h3 } → wpAny (model X.prog X.w) (X.A.mark (some (.ref a))) (eval (.Name x np) X.env) Q E { s' with heap := h3 } := fun {Q E} q => by
      obtain ⟨hg, hdbg, hm | ⟨hm, hv, hnn⟩⟩ := hc
      · exact ld_glob (X := X.suite a ((a, oe3) :: (X.pn ++ pins))) S3 hg hm q hdbg
      · exact ld_blt (X := X.suite a ((a, oe3) :: (X.pn ++ pins))) S3 hg hm hv q hnn hdbg
    refine test (LM.here ?_)
    cases b with
    | true =>
      refine codeAny_handlers_suite ?_
      refine HandSPX.lands_againZ fl3 fun h4 fl4 up4 => ?_
      obtain ⟨m, tk4, ot, k4, et, hct, hdt⟩ := tx
      have frB : ∀ b, b ∈ frs (X.env :: X.outer) → B.get? b = none := fun b hb => (fl4.2.2.1.mem hb).1
      have J40 := J.landed (pins := pins) (s' := { s' with heap := h4 }) nb fl4.1 ((up.trans up3).trans up4) os ag
      have pin1 : ∀ (p : Addr) (o : Obj), B.get? p = some o → H' p = none → (∀ v, o.data ≠ .cell v) → h4.get? p = some o ∧ H' p = none ∧ p ≠ X.env.locals ∧ p ∉ X.fs ∧ ∀ v, o.data ≠ .cell v := fun p o e n nc => by
        have nf : p ∉ frs (X.env :: X.outer) := fun hm => by
          have z := frB p hm
          rw [e] at z; cases z
        exact ⟨fl4.1 _ _ e, n, fun z => nf (List.mem_filterMap.mpr ⟨X.env, List.mem_cons_self, by rw [hf]; exact congrArg some z.symm⟩), fun hm => by
          obtain ⟨e, he, q⟩ := List.mem_filterMap.mp hm
          exact nf (List.mem_filterMap.mpr ⟨e, List.mem_cons_of_mem _ he, q⟩), nc⟩
      have J4 : Inv X ((t, ot) :: (l ++ pins)) σ' H' { s' with heap := h4 } := Inv.topin (Inv.topins J40 fun p hp => pin1 p.1 p.2 (cx.2 p hp).1 (cx.2 p hp).2 (Link.nocell cx.1 p hp)) (pin1 t ot et tn fun v z => by rw [hdt] at z; cases z)
      obtain ⟨oe4, vs4, he4, hz4, hd4⟩ := fl4.there
      have S4 := J4.suite he4 hd4 na nL nF
      refine wpAny_mono ((hsu a cls d ((a, oe4) :: (X.pn ++ (t, ot) :: (l ++ pins))) ⟨(a, oe4) :: l, ⟨rfl, ⟨vs4, hd4, hz4.2.2 _ hd4⟩, cx.1⟩, fun p hp => (List.mem_cons.mp hp).elim (fun e => by rw [e]; exact List.mem_cons_self) fun h => List.mem_cons_of_mem _ (List.mem_append_right _ (List.mem_cons_of_mem _ (List.mem_append_left _ h)))⟩).run [] _ _ H' _ S4 (hyes rfl a na)) (fun f s6 hsp => ?_) (fun _ _ z => False.elim z)
      have back : ∀ {σ6 : L2.St} {H6 : Hp}, Inv (X.suite a ((a, oe4) :: (X.pn ++ (t, ot) :: (l ++ pins)))) [] σ6 H6 s6 → Inv X pins σ6 H6 s6 := fun S6 => Inv.unpins (Inv.unpin (S6.unsuite ok))
      cases f with
      | next =>
        obtain ⟨σ6, H6, S6, q6⟩ := hsp
        exact ⟨_, _, back S6, q6⟩
      | brk =>
        obtain ⟨σ6, H6, S6, q6⟩ := hsp
        exact ⟨_, _, back S6, q6⟩
      | cont =>
        obtain ⟨σ6, H6, S6, q6⟩ := hsp
        exact ⟨_, _, back S6, q6⟩
      | ret u =>
        obtain ⟨v6, σ6, H6, S6, r6, q6⟩ := hsp
        exact ⟨_, _, _, back S6, r6, q6⟩
    | false =>
      show wpAny _ X.A (handleBy (.ref a) X.env []) _ _ _
      refine wpAny_handleBy_nil ?_
      obtain ⟨k1, k2, k3, oe, vs, T, oT, ts', he, hz, hd, h1, hr⟩ := id fl3
      unfold PySem.passOn
      refine wpAny_bind (wpAny_field he hd h1 ?_)
      rw [if_neg (show ¬ ((Value.ref T == Value.none) = true) from by simp)]
      have fin : wpAny (model X.prog X.w) X.A (setFlight (.ref a) X.env.frame) (fun _ s4 => wpAny (model X.prog X.w) X.A (throw (.ref a) : Sem Flow) (SP X pins D) X.xe s4) X.xe { s' with heap := h3 } := by
        rw [hf]
        refine HandSPX.setFlight_upZ (L2H.flyingZ_imp (fun o z => z.1) fl3) fun h4 hh4 up4 => wpAny_throw (tk _ _ ?_)
        exact ⟨a, B, sI, pins, σ', H', cls, d, rfl, J, nb, (up.trans up3).trans up4, .inr (.inr (by rw [hs]; exact hh4)), na, os, ag, hno rfl⟩
      first
        | exact wpAny_bind (wpAny_pure (wpAny_bind fin))
        | exact wpAny_bind fin
  · cases f with
    | next =>
      obtain ⟨σ', H', J', q⟩ := hsp
      exact wpAny_execs_nil ⟨σ', H', J'.ofTry ok, q⟩
    | brk =>
      obtain ⟨σ', H', J', q⟩ := hsp
      exact ⟨σ', H', J'.ofTry ok, q⟩
    | cont =>
      obtain ⟨σ', H', J', q⟩ := hsp
      exact ⟨σ', H', J'.ofTry ok, q⟩
    | ret u =>
      obtain ⟨v, σ', H', J', r, q⟩ := hsp
      exact ⟨v, σ', H', J'.ofTry ok, r, q⟩
end
end Mm
namespace Mm
open PySem L2 HotX
open PyProof.Rows (envOfC)
abbrev FnMB (P : Program) (w : World) (K : PySem.W.Frag) (mg : Str → Option Value) (base : Heap) (CX : CXT) (k : Nat) (f : Addr) (fd : FuncData) (ps : List Str) (sp : SpM) : Prop := FnB P w K mg base CX k f fd ps (liftSp K sp)
section
variable {P : Program} {w : World} {K : PySem.W.Frag} {mg : Str → Option Value} {base : Heap}
theorem FnB.weakB {k : Nat} {f : Addr} {fd : FuncData} {ps : List Str} {sp : Sp} (F : FnB P w K mg base (CXB P w) k f fd ps sp) : FnB P w K mg base (L2.CX P w) k f fd ps sp :=
  ⟨F.len, fun A outer s H args us vs Q E l hr hh hp he hb hv hs => codeAny_mono (F.run A outer s H args us vs Q E l hr hh hp he hb hv hs) fun r s' h => by
    rcases r with e | (v | _ | _ | _)
    · exact CXB.weak h
    · exact h
    · exact h
    · exact h
    · exact h⟩
theorem fn_noneB {CX : CXT} {k : Nat} {f : Addr} {fd : FuncData} {ps : List Str} {sp : SpM} (h : ∀ ds m Q E, sp ds m Q E → False) : FnMB P w K mg base CX k f fd ps sp :=
  ⟨fun vs H Q E ⟨ds, m, Qm, Em, _, _, q, _⟩ => (h _ _ _ _ q).elim, fun A outer s H args us vs Q E l _ _ _ _ _ _ ⟨ds, m, Qm, Em, _, _, q, _⟩ => (h _ _ _ _ q).elim⟩
theorem hu65H {k : Nat} {A : Around} (r : L2H.RoomH k A) : A.units + 65 < cLine := by have := r.un; omega
theorem HC.of {X : Cx} {l : Hl} (h : Hand X.A l) (e : X.pn = l) : HC X := ⟨l, h, fun p hp => by rw [e]; exact hp⟩
theorem HC.tr {X : Cx} {pn : List (Addr × Obj)} {xe : Value → Shared → Prop} (h : HC X) (sub : ∀ q ∈ X.pn, q ∈ pn) : HC (X.tr pn xe) := by
  obtain ⟨l, a, b⟩ := h
  exact ⟨l, a, fun p hp => sub p (b p hp)⟩
theorem HC.none {X : Cx} (h : X.A.handled = none) : HC X := ⟨[], ⟨h, trivial⟩, fun _ h => nomatch h⟩
theorem Fun.okB {CX : CXT} {x qual : Str} {st : Stmt} {f : Addr} {fd : FuncData} {N ps : List Str} {k : Nat} {sp : Sp} (F : Fun K x qual st f fd) (S : FnScope N ps (defScope st)) (len : ∀ vs H Q E, sp vs H Q E → vs.length = ps.length)
    (hbody : ∀ (cdv : Value) (A : Around) (outer : List Env) (s : Shared) (H : Hp) (vs : List V) (Q : VK) (E : XK) (l : Hl), Hand A l → L2H.RoomH k (A.deeper (envOfC qual (defScope st) s.heap.objs.size f cdv)) → sp vs H Q E →
      ∃ t, PSs (cxB CX P w K mg base N qual (defScope st) f cdv A outer s H E l) (defBody st) t ∧ t { nx := fun _ H' => Q .non H', rt := Q } (start N vs) H) : FnB P w K mg base CX (k + 1) f fd ps sp := by
  obtain ⟨oc, od, kV, doc, pm, an, cdv, ct, osl, rfl, lk, hcd⟩ := F.ex
  exact fn_ofB lk hcd S len fun A outer s H vs Q E l hh hr hsp => hbody cdv A outer s H vs Q E l hh hr hsp
theorem fn_mB {k : Nat} {x qual : Str} {st : Stmt} {f : Addr} {fd : FuncData} {N ps : List Str} {sp : SpM} (F : Fun K x qual st f fd) (S : FnScope N ps (defScope st)) (len : ∀ ds m Q E, sp ds m Q E → ds.length = ps.length)
    (hbody : ∀ (cdv : Value) (A : Around) (outer : List Env) (s : Shared) (H : Hp) (ds : List D) (m : Mem) (Q : KM) (E : XM) (E' : XK) (l : Hl), HC (cxB CX0 P w K mg base N qual (defScope st) f cdv A outer s H E' l).nox → L2H.RoomH k (A.deeper (envOfC qual (defScope st) s.heap.objs.size f cdv)) → sp ds m Q E →
      ∃ p, MSs (cxB CX0 P w K mg base N qual (defScope st) f cdv A outer s H E' l).nox (stepB m H) (defBody st) p ∧ p { nx := fun _ m' => RtM Q .non m', rt := RtM Q } (startM N ds) m) : FnMB P w K mg base CX0 (k + 1) f fd ps sp := by
  refine Fun.okB F S (fun vs H Q E ⟨ds, m, Qm, Em, x, r, q, _⟩ => by rw [← x.length]; exact len _ _ _ _ q) fun cdv A outer s H vs Q E l hh hr ⟨ds, m, Qm, Em, x, r, q, k1, k2⟩ => ?_
  obtain ⟨p, hp, go⟩ := hbody cdv A outer s H ds m Qm Em E l (HC.of hh rfl) hr q
  refine ⟨_, PSs.nox hp, startM N ds, m, _, ⟨ss_start N x, r, Step.refl⟩, go, ?_, ?_, ?_, ?_⟩
  · intro ρ' m' σ' H' ⟨m0, sb, q'⟩ r' t' s'
    exact k1 _ _ _ _ q' (r'.sub sb) (t'.sub sb) Rep.non
  · intro d m' v H' ⟨m0, sb, q'⟩ r' t' x'
    exact k1 _ _ _ _ q' (r'.sub sb) (t'.sub sb) x'
  · intro ρ' m' σ' H' z; exact z.elim
  · intro ρ' m' σ' H' z; exact z.elim
theorem fn_mXB {k : Nat} {x qual : Str} {st : Stmt} {f : Addr} {fd : FuncData} {N ps : List Str} {sp : SpM} (F : Fun K x qual st f fd) (S : FnScope N ps (defScope st)) (len : ∀ ds m Q E, sp ds m Q E → ds.length = ps.length)
    (hbody : ∀ (cdv : Value) (A : Around) (outer : List Env) (s : Shared) (H : Hp) (ds : List D) (m : Mem) (Q : KM) (E : XM) (E' : XK) (l : Hl), HC (cxB (CXB P w) P w K mg base N qual (defScope st) f cdv A outer s H E' l) → L2H.RoomH k (A.deeper (envOfC qual (defScope st) s.heap.objs.size f cdv)) → sp ds m Q E →
      (∀ C m' H', E C m' → RM K H' m' → Step m H m' H' → E' (.ref C) none H') →
      ∃ p, MSs (cxB (CXB P w) P w K mg base N qual (defScope st) f cdv A outer s H E' l) (stepB m H) (defBody st) p ∧ p { nx := fun _ m' => RtM Q .non m', rt := RtM Q } (startM N ds) m) : FnMB P w K mg base (CXB P w) (k + 1) f fd ps sp := by
  refine Fun.okB F S (fun vs H Q E ⟨ds, m, Qm, Em, x, r, q, _⟩ => by rw [← x.length]; exact len _ _ _ _ q) fun cdv A outer s H vs Q E l hh hr ⟨ds, m, Qm, Em, x, r, q, k1, k2⟩ => ?_
  obtain ⟨p, hp, go⟩ := hbody cdv A outer s H ds m Qm Em E l (HC.of hh rfl) hr q fun C m' H' e r' t' => k2 C m' H' e r' t'
  refine ⟨_, hp, startM N ds, m, _, ⟨ss_start N x, r, Step.refl⟩, go, ?_, ?_, ?_, ?_⟩
  · intro ρ' m' σ' H' ⟨m0, sb, q'⟩ r' t' s'
    exact k1 _ _ _ _ q' (r'.sub sb) (t'.sub sb) Rep.non
  · intro d m' v H' ⟨m0, sb, q'⟩ r' t' x'
    exact k1 _ _ _ _ q' (r'.sub sb) (t'.sub sb) x'
  · intro ρ' m' σ' H' z; exact z.elim
  · intro ρ' m' σ' H' z; exact z.elim
end
section
variable {X : Cx} {B : Bs} {E' : XK} {Em : XM}
theorem passMB (tk : TakesB X (fun cls d _ H => E' cls d H)) (hw : ∀ C m H, Em C m → RM X.K H m → B.P m H → E' (.ref C) none H) : Passes (CXB X.prog X.w) X (uX X.K B Em) :=
  passesB_call tk fun cls d σ H ⟨C, m, e, e2, em, r, b⟩ => by subst e e2; exact hw C m H em r b
end
section
variable {X : Cx} {B : Bs} {e o : Expr} {es : List Expr} {pos p apos : Pos} {la : TAm} {pa : TEm} {CX : CXT} {k : Nat} {f g C : Addr} {fd : FuncData} {ps : List Str} {sp : SpM} {Em : XM} {x n : Str}
theorem bx_call (F : FnMB X.prog X.w X.K X.mg X.base CX k f fd ps sp) (hr : L2H.RoomH k X.A) (hc : HC X) (hm : X.mg x = some (.ref f)) (hk : PySem.W.keepIn X.K (.ref f) = true) (hb : Binds X.K fd ps []) (hx : Passes CX X (uX X.K B Em))
    (ha : MA X B (e :: es) la) (hg : Gl X x := by rfl) (hdb : (x == ("__debug__" : Str)) = false := by decide) (he : starEach (e :: es) X.env = (false, eval e X.env) :: starEach es X.env := by rfl) (hpl : (backTo pos (starEach es X.env)).any (·.1) = false := by rfl) :
    MX X B (.Call (.Name x p) (e :: es) [] pos) (wCall sp Em la) := peImp (pe_callV (E := fun _ => uX X.K B Em) F hr hc hg hm hk hb (fun σ pins H s e s' I c => hx pins σ H s e s' I c) ha hdb he hpl) fun σ H Q ⟨ρ, m, Qm, A, q, k⟩ => by
  refine ⟨ρ, m, _, A, q, fun ds m1 vs H1 q1 r1 t1 x1 => ?_⟩
  exact ⟨ds, m1, Qm, Em, x1, r1, q1, fun d m' v H' q2 r2 t2 x2 => k d m' v H' q2 r2 (t1.trans t2) x2, fun C m' H' q2 r2 t2 => ⟨C, m', rfl, rfl, q2, r2, B.cl _ _ _ _ A.b (t1.trans t2)⟩⟩
theorem bx_callS {W : WX} {Es : XS} (F : FnMB X.prog X.w X.K X.mg X.base CX k f fd ps sp) (hr : L2H.RoomH k X.A) (hc : HC X) (hm : X.mg x = some (.ref f)) (hk : PySem.W.keepIn X.K (.ref f) = true) (hb : Binds X.K fd ps []) (hx : ∀ σ, PassesAt CX X σ (WE W σ))
    (hw : ∀ C ρ m σ H, Es C ρ m → At X.K B σ H ρ m → W (.ref C) none σ H)
    (ha : MA X B (e :: es) la) (hg : Gl X x := by rfl) (hdb : (x == ("__debug__" : Str)) = false := by decide) (he : starEach (e :: es) X.env = (false, eval e X.env) :: starEach es X.env := by rfl) (hpl : (backTo pos (starEach es X.env)).any (·.1) = false := by rfl) :
    MX X B (.Call (.Name x p) (e :: es) [] pos) (wCallS sp Es la) := peImp (pe_callV F hr hc hg hm hk hb hx ha hdb he hpl) fun σ H Q ⟨ρ, m, Qm, A, q, k⟩ => by
  refine ⟨ρ, m, _, A, q, fun ds m1 vs H1 q1 r1 t1 x1 => ?_⟩
  exact ⟨ds, m1, Qm, _, x1, r1, q1, fun d m' v H' q2 r2 t2 x2 => k d m' v H' q2 r2 (t1.trans t2) x2, fun C m' H' q2 r2 t2 => hw C ρ m' σ H' q2 (A.step r2 (t1.trans t2))⟩
theorem bx_meth {pl : Sem Bool} (he : MX X B o pa) (c : Cls X.K C) (hm : Meth X.K C n g) (F : FnMB X.prog X.w X.K X.mg X.base CX k g fd ps sp) (hr : L2H.RoomH k X.A) (hc : HC X) (hb : Binds X.K fd ps []) (hx : Passes CX X (uX X.K B Em)) (ha : MA X B (e :: es) la)
    (hst : starEach (e :: es) X.env = (false, eval e X.env) :: starEach es X.env := by rfl) (hpl : (backTo pos (starEach es X.env)).any (·.1) = false := by rfl)
    (ht : eval (.Call (.Attribute o n apos) (e :: es) [] pos) X.env = (do
      let ov ← eval o X.env
      standAt apos.atName
      let (f, first) ← holding [ov] (getMethod ov n pl)
      callWith pos f first (backTo pos (starEach (e :: es) X.env)) (backToKw pos (keywordEach [] X.env))) := by rfl) :
    MX X B (.Call (.Attribute o n apos) (e :: es) [] pos) (wMeth C n sp Em pa la) := peImp (pe_methV (E := fun _ => uX X.K B Em) he c hm F hr hc hb (fun σ pins H s e s' I c => hx pins σ H s e s' I c) ha hst hpl ht) fun σ H Q h => by
  obtain ⟨ρ, m, Qm, A, q, k⟩ := h
  refine ⟨ρ, m, _, A, q, fun x m1 v H1 q1 r1 t1 x1 => ?_⟩
  unfold refAt at q1
  split at q1
  · obtain ⟨fs, e, l, q1⟩ := q1
    obtain ⟨u, h1, dx, xs, rfl, kv⟩ := r1 _ _ e
    refine ⟨_, dx, xs, Rep.ref_iff.mp x1, h1, kv.look.2 l, ρ, m1, _, A.step r1 t1, q1, fun ds m2 vs H2 q2 r2 t2 x2 => ?_⟩
    have t12 := t1.trans t2
    exact ⟨_, m2, Qm, Em, Reps.cons (x1.stay (t2.tups r1)) x2, r2, q2, fun d m' v H' q3 r3 t3 x3 => k d m' v H' q3 r3 (t12.trans t3) x3, fun C m' H' q3 r3 t3 => ⟨C, m', rfl, rfl, q3, r3, B.cl _ _ _ _ A.b (t12.trans t3)⟩⟩
  · exact q1.elim
theorem bx_meth0 {pl : Sem Bool} (he : MX X B o pa) (c : Cls X.K C) (hm : Meth X.K C n g) (F : FnMB X.prog X.w X.K X.mg X.base CX k g fd ps sp) (hr : L2H.RoomH k X.A) (hc : HC X) (hb : Binds X.K fd ps []) (hx : Passes CX X (uX X.K B Em))
    (ht : eval (.Call (.Attribute o n apos) [] [] pos) X.env = (do
      let ov ← eval o X.env
      standAt apos.atName
      let (f, first) ← holding [ov] (getMethod ov n pl)
      callWith pos f first (backTo pos (starEach [] X.env)) (backToKw pos (keywordEach [] X.env))) := by rfl) :
    MX X B (.Call (.Attribute o n apos) [] [] pos) (wMeth C n sp Em pa wNil) := peImp (pe_meth0V (ta := uE X.K B pa) (E := fun _ => uX X.K B Em) he c hm F hr hc hb (fun σ pins H s e s' I c => hx pins σ H s e s' I c) ht) fun σ H Q h => by
  obtain ⟨ρ, m, Qm, A, q, k⟩ := h
  refine ⟨ρ, m, _, A, q, fun x m1 v H1 q1 r1 t1 x1 => ?_⟩
  unfold refAt at q1
  split at q1
  · obtain ⟨fs, e, l, q1⟩ := q1
    obtain ⟨u, h1, dx, xs, rfl, kv⟩ := r1 _ _ e
    refine ⟨_, dx, xs, Rep.ref_iff.mp x1, h1, kv.look.2 l, ?_⟩
    exact ⟨_, m1, Qm, Em, Reps.cons x1 Reps.nil, r1, q1, fun d m' v H' q3 r3 t3 x3 => k d m' v H' q3 r3 (t1.trans t3) x3, fun C m' H' q3 r3 t3 => ⟨C, m', rfl, rfl, q3, r3, B.cl _ _ _ _ A.b (t1.trans t3)⟩⟩
  · exact q1.elim
theorem bx_make (M : Mk X.K C g) (F : FnMB X.prog X.w X.K X.mg X.base CX k g fd ps sp) (hr : L2H.RoomH (k + 1) X.A) (hc : HC X) (hm : X.mg x = some (.ref C)) (hb : Binds X.K fd ps []) (hx : Passes CX X (uX X.K B Em))
    (ha : MA X B (e :: es) la) (hg : Gl X x := by rfl) (hdb : (x == ("__debug__" : Str)) = false := by decide) (he : starEach (e :: es) X.env = (false, eval e X.env) :: starEach es X.env := by rfl) (hpl : (backTo pos (starEach es X.env)).any (·.1) = false := by rfl) :
    MX X B (.Call (.Name x p) (e :: es) [] pos) (wMake C sp Em la) := peImp (pe_makeV (E := fun _ => uX X.K B Em) M F hr hc hg hm hb (fun σ pins H s e s' I c => hx pins σ H s e s' I c) ha hdb he hpl) fun σ H Q ⟨ρ, m, Qm, A, q, k⟩ => by
  refine ⟨ρ, m, _, A, q, fun ds m1 vs H1 q1 r1 t1 x1 => ?_⟩
  intro a dx ha hdx ne
  obtain ⟨ma, r2, t2⟩ := make_new (C := C) r1 ha hdx ne
  have t12 := t1.trans t2
  exact ⟨_, _, _, Em, Reps.cons Rep.ref (x1.stay (t2.tups r1)), r2, q1 a ma, fun d m' v H' ⟨e, q2⟩ r3 t3 x3 => by subst e; exact ⟨Rep.non_iff.mp x3, k _ _ _ _ q2 r3 (t12.trans t3) Rep.ref⟩,
    fun C m' H' q2 r3 t3 => ⟨C, m', rfl, rfl, q2, r3, B.cl _ _ _ _ A.b (t12.trans t3)⟩⟩
end
def MIB (X : Cx) (B : Bs) (tg iter : Expr) (ti : TIm) : Prop := PIB X tg iter (uI X.K B ti)
section
variable {X : Cx} {B : Bs} {e e2 a b c tg iter : Expr} {st : Stmt} {es : List Expr} {rest body : List Stmt} {pos : Pos} {pa pb pc p : TEm} {ta tb tc : TTm} {la : TAm} {t u : TSm}
theorem piImpB {t t' : TI} (h : PIB X tg iter t) (i : ∀ σ H R, t' σ H R → t σ H R) : PIB X tg iter t' := ⟨fun pins s σ H R I q => h.run pins s σ H R I (i _ _ _ q)⟩
theorem bi_hid (h : MX X B iter p) : MIB X B tg iter (iH p) := piImpB (pi_listB h) fun σ H R ⟨ρ, m, Rm, A, q, k⟩ => by
  refine ⟨ρ, m, _, A, q, fun d m1 v H1 q1 r1 t1 x1 => ?_⟩
  unfold refAt at q1
  split at q1
  · obtain ⟨ds, m0, e, sb, n, q1⟩ := q1
    obtain ⟨xs, hx, rr⟩ := rd_lst r1 e
    have r0 := r1.sub sb
    refine ⟨_, Rep.ref_iff.mp x1, ⟨xs, hx⟩, k _ _ _ _ _ q1 r0 (t1.sub sb) (good_list (fun m' H' s r c => ⟨xs, sqL_step s n hx, rr.stay (s.tups r0)⟩) fun _ _ _ _ _ _ => trivial)⟩
  · exact q1.elim
theorem bi_tup (h : MX X B iter p) : MIB X B tg iter (iT p) := piImpB (pi_tupB h) fun σ H R ⟨ρ, m, Rm, A, q, k⟩ => by
  refine ⟨ρ, m, _, A, q, fun d m1 v H1 q1 r1 t1 x1 => ?_⟩
  unfold tupAt at q1
  split at q1
  · rename_i ds
    obtain ⟨a, xs, e, hT, rr⟩ := Rep.tup_iff.mp x1
    refine ⟨a, e, ⟨xs, hT.sq⟩, k _ _ _ _ (Itt X.K a) q1 r1 t1 fun i m' H' s r c => ?_⟩
    have hx : SqT X.K H' a xs := ((s.tups r1) _ _ _ hT).sq
    have rr' := rr.stay (s.tups r1)
    refine ⟨fun d e => ?_, fun e => ⟨xs, hx, by rw [← rr'.length]; exact e⟩⟩
    obtain ⟨v, e2, x2⟩ := rr'.get e
    refine ⟨⟨xs, v, hx, e2⟩, fun x H2 y => ?_⟩
    obtain ⟨e3, y⟩ := y
    subst e3
    have e4 := y xs hx
    rw [e2] at e4; cases e4
    exact ⟨r, Step.refl, x2⟩
  · exact q1.elim
theorem bi_range1 {p pos : Pos} (hm : X.mg "range" = none) (ha : MA X B [a] la) (hg : Gl X "range" := by rfl) (hs : starEach [a] X.env = [(false, eval a X.env)] := by rfl) : MIB X B tg (.Call (.Name "range" p) [a] [] pos) (iR1 la) := piImpB (pi_range1B hg hm ha hs) fun σ H R ⟨ρ, m, Rm, A, q, k⟩ => by
  refine ⟨ρ, m, _, A, q, fun ds m1 vs H1 q1 r1 t1 x1 => ?_⟩
  unfold int1At at q1
  split at q1
  · obtain ⟨v, e, y⟩ := reps1 x1
    rw [Rep.int_iff.mp y] at e
    exact ⟨_, e, q1.1, q1.2.1, k _ _ _ _ _ q1.2.2 r1 t1 good_range⟩
  · exact q1.elim
theorem bi_str (h : MX X B iter p) : MIB X B tg iter (iStrM p) := piImpB (pi_strB h) fun σ H R ⟨ρ, m, Rm, A, q, k⟩ => by
  refine ⟨ρ, m, _, A, q, fun d m1 v H1 q1 r1 t1 x1 => ?_⟩
  obtain ⟨x, rfl, q1⟩ := q1
  have ev : v = .str x := Rep.str_iff.mp x1
  refine ⟨x, ev, k _ _ _ _ (Its x) q1 r1 t1 fun i m' H' s r c => ?_⟩
  refine ⟨fun d e => ?_, fun e => ?_⟩
  · unfold signsD at e
    rw [List.getElem?_map] at e
    obtain ⟨c, ec, rfl⟩ := Option.map_eq_some_iff.mp e
    rw [Array.getElem?_toList] at ec
    have hlt : i < x.cps.size := (Array.getElem?_eq_some_iff.mp ec).1
    refine ⟨hlt, fun y H2 z => ?_⟩
    obtain ⟨rfl, c', ec', rfl⟩ := z
    rw [ec] at ec'
    cases ec'
    exact ⟨r, Step.refl, Rep.str⟩
  · unfold signsD at e
    rw [List.length_map, Array.length_toList] at e
    exact e
theorem bc_all1 (hc : HC X) : MCall X (.builtin "all") wAll1 := mcall_of (cr_allB hc) fun ds vs H m Q Qm hx r q k => by
  unfold wAll1 at q; split at q
  · obtain ⟨v, e, x⟩ := reps1 hx
    rw [Rep.ref_iff.mp x] at e
    obtain ⟨bs, e1, q⟩ := q
    obtain ⟨xs, s, rr⟩ := rd_lst r e1
    rw [reps_bls rr] at s
    exact ⟨_, bs, e, s, k _ _ _ _ q r Step.refl Rep.bl⟩
  · exact q.elim
theorem bs_for {ti : TIm} {g : TGm} {tb : TSm} (hp : PassesOwn (model X.prog X.w) X.A X.env X.xe) (hc : HC X) (hi : MIB X B tg iter ti) (hg : MG X B tg g) (hb : MSs X B body tb)
    (hs : ∀ x, foldedSetIterable iter X.env x = pure x := by intro _; rfl) : MS X B (.For tg iter body [] pos) (wFor ti g tb) := psImp (ps_forB hp hc hi hg hb hs) fun D σ H h => for_go h
theorem bx_lc {elt : Expr} {ifs : List Expr} {scope : Scope} {own : List (Str × Nat)} {ti : TIm} {g : TGm} {g0 : TG} {tt : TTm} {te : TEm} (hc : HC X) (hN : X.N.Nodup) (hi : MIB X B tg iter ti) (ok : BlkOk X.N X.env.scope scope own)
    (hg : ∀ (s : Shared) (H : Hp) (C : Addr) (cl : List (Str × Addr)) (fp : List Addr) (l : Hl), Hand X.A l → PG (blkB X s H scope (compEnvC scope cl C X.env) fp l) tg g0) (gk : GOk X.K B g g0 (own.map (·.2)))
    (ht : ∀ (s : Shared) (H : Hp) (C : Addr) (cl : List (Str × Addr)) (fp : List Addr) (l : Hl), Hand X.A l → MTs (blkB X s H scope (compEnvC scope cl C X.env) fp l) B ifs tt)
    (he : ∀ (s : Shared) (H : Hp) (C : Addr) (cl : List (Str × Addr)) (fp : List Addr) (l : Hl), Hand X.A l → MX (blkB X s H scope (compEnvC scope cl C X.env) fp l) B elt te) (hs : ∀ x, foldedSetIterable iter X.env x = pure x := by intro _; rfl) :
    MX X B (.ListComp elt [⟨tg, iter, ifs, 0⟩] scope pos) (wLc ti g tt te (own.map (·.2))) := peImp (pe_lcB (tt := uT X.K B tt) (te := uE X.K B te) hc hN hi ok hg ht he hs) fun σ H Q h => lc_go gk h
end
section
variable {X : Cx} {B : Bs} {E' : XK} {Em : XM} {C : Addr}
theorem bs_raise {e : Expr} {pos : Pos} (hc : HC X) (tk : TakesB X (fun cls d _ H => E' cls d H)) (hw : ∀ C m H, Em C m → RM X.K H m → B.P m H → E' (.ref C) none H) (he : PMkA X e (fun _ H Q => Q (.ref C) none H)) :
    MS X B (.Raise (some e) none pos) (wRaise Em C) := psImp (ps_raiseB hc tk he) fun D σ H ⟨ρ, m, E, A, q, _⟩ => hw C m H q A.r A.b
variable {k : Nat} {f : Addr} {fd : FuncData} {ps : List Str} {sp : SpM} {Es : XS} {x n : Str} {e : Expr} {es : List Expr} {la : TAm} {pos p pos' np : Pos} {W : WX}
def wRaiseS (Em : XM) (C : Addr) (pa : TEm) : TSm := fun _ ρ m => pa ρ m fun d m' => ∃ t, d = .str t ∧ Em C m'
theorem bs_raiseS {pa : TEm} {bmB : List Value} {Bn newId initId : String} {j : Nat} {cpos : Pos} (hc : HC X) (tk : TakesB X (fun cls d _ H => E' cls d H)) (hw : ∀ C m H, Em C m → RM X.K H m → B.P m H → E' (.ref C) none H)
    (F : ExcBaseFacts Bn newId initId bmB) (q : PySem.W.excIn X.K C bmB newId = true) (gC : X.mg x = some (.ref C)) (kC : PySem.W.keepIn X.K (.ref C) = true) (r : Raises X (.ref C)) (hg : Gl X x)
    (he : MX X B e pa) (hst : starEach [e] X.env = (false, eval e X.env) :: starEach [] X.env := by rfl) (hdb : (x == ("__debug__" : Str)) = false := by decide) :
    MS X B (.Raise (some (.Call (.Name x p) [e] [] pos)) (some (.Constant .none j cpos)) pos') (wRaiseS Em C pa) :=
  psImp (ps_raiseBN hc tk (pmkA6_str F q gC kC r hg he hst hdb)) fun D σ H ⟨ρ, m, E, A, q, _⟩ => ⟨ρ, m, _, A, q, fun d m' v H' q' r' t' x' => by
    obtain ⟨t, e, q'⟩ := q'
    subst e
    exact ⟨t, Rep.str_iff.mp x', hw C m' H' q' r' (B.cl _ _ _ _ A.b t')⟩⟩
theorem bs_try_asX {c : Value} {i : Nat} {body suite : List Stmt} {b₀ : Stmt} {tb : XS → TSm} {ts : Addr → TSm} (hs : X.stack = X.env :: X.outer) (hf : X.env.frame = some X.env.locals) (hN : X.N.Nodup) (hi : X.N[i]? = some n) (hln : X.env.kindOf n = some .local) (hc : Names X x c)
    (hx : PySem.W.exmOne X.K (.ref C) c = some true) (tk : TakesB X (fun cls d _ H => E' cls d H))
    (hb : ∀ (B' : Bs) (Es : XS) (W : WX) (pn : List (Addr × Obj)) (xe : Value → Shared → Prop), (∀ q ∈ X.pn, q ∈ pn) → TakesB (X.tr pn xe) W → (∀ C ρ m σ H, Es C ρ m → At X.K B' σ H ρ m → W (.ref C) none σ H) → MSs (X.tr pn xe) B' body (tb Es))
    (hsu : ∀ (a : Addr) (pn : List (Addr × Obj)) (xe : Value → Shared → Prop), HeldT (suiteY X a pn xe) C a → TakesB (suiteY X a pn xe) (fun cls d _ H => E' cls d H) → HC (suiteY X a pn xe) → MSs (suiteY X a pn xe) B (b₀ :: suite) (ts a)) :
    MS X B (.Try body [.ExceptHandler (some (.Name x np)) (some n) (b₀ :: suite) pos'] [] [] pos) (wTryAs C i tb ts) :=
  psImp (ps_try_asB (i := i) (Wout := fun cls d _ H => E' cls d H) (tb := fun W D σ H => ∃ (B' : Bs) (Es : XS), (∀ C ρ m σ H, Es C ρ m → At X.K B' σ H ρ m → W (.ref C) none σ H) ∧ uS X.K B' (tb Es) D σ H)
      (ts := fun a cls d D σ H => cls = .ref C ∧ d = none ∧ uS X.K B (ts a) D σ H) hs hf hN hi hln hc tk
      (fun W pn xe sub tk _ => ⟨fun pins s σ H D I ⟨B', Es, hw, h⟩ => (hb B' Es W pn xe sub tk hw).run pins s σ H D I h⟩)
      (fun a cls d pn xe hz tk hot => ⟨fun pins s σ H D I ⟨e1, e2, h⟩ => by subst e1 e2; exact (hsu a pn xe (hz _ rfl) tk hot).run pins s σ H D I h⟩))
    fun D σ H ⟨ρ, m, E, A, q, n1, n2, n3, n4⟩ => by
      refine ⟨⟨fun m' H' => B.P m' H' ∧ Step m H m' H', fun _ _ _ _ a b => ⟨B.cl _ _ _ _ a.1 b, a.2.trans b⟩⟩, _, ?_, ρ, m, E, ⟨A.s, A.r, A.b, Step.refl⟩, q, n1, n2, n3, n4⟩
      intro C' ρ' m' σ' H' ⟨e1, hts⟩ A'
      subst e1
      refine ⟨true, hx, fun _ a ha => ⟨rfl, rfl, ρ'.set i (some (.ref a)), m', _, ⟨Ss.set Rep.ref i A'.s, A'.r, A'.b.1⟩, hts a (A'.r.out ha), ?_, ?_, ?_, ?_⟩, fun z => nomatch z⟩
      · intro ρ2 m2 σ2 H2 z r2 t2 s2
        exact n1 _ _ _ _ z r2 (A'.b.2.trans t2) (Ss.setN i s2)
      · intro d m2 v H2 z r2 t2 x2
        exact n2 _ _ _ _ z r2 (A'.b.2.trans t2) x2
      · intro ρ2 m2 σ2 H2 z r2 t2 s2
        exact n3 _ _ _ _ z r2 (A'.b.2.trans t2) (Ss.setN i s2)
      · intro ρ2 m2 σ2 H2 z r2 t2 s2
        exact n4 _ _ _ _ z r2 (A'.b.2.trans t2) (Ss.setN i s2)
theorem bs_try_as {c : Value} {i : Nat} {body suite : List Stmt} {b₀ : Stmt} {tb : XS → TSm} {ts : Addr → TSm} (hs : X.stack = X.env :: X.outer) (hf : X.env.frame = some X.env.locals) (hN : X.N.Nodup) (hi : X.N[i]? = some n) (hln : X.env.kindOf n = some .local) (hc : Names X x c)
    (hx : PySem.W.exmOne X.K (.ref C) c = some true)
    (hb : ∀ (B' : Bs) (Es : XS) (W : WX) (pn : List (Addr × Obj)) (xe : Value → Shared → Prop), (∀ q ∈ X.pn, q ∈ pn) → Takes (X.tr pn xe) W → (∀ C ρ m σ H, Es C ρ m → At X.K B' σ H ρ m → W (.ref C) none σ H) → MSs (X.tr pn xe) B' body (tb Es))
    (hsu : ∀ (B' : Bs) (a : Addr) (oe : Obj) (pn : List (Addr × Obj)), Zc (.ref C) none oe → (∃ vs, oe.data = .fields vs) → MSs (X.suite a ((a, oe) :: pn)) B' (b₀ :: suite) (ts a)) :
    MS X B (.Try body [.ExceptHandler (some (.Name x np)) (some n) (b₀ :: suite) pos'] [] [] pos) (wTryAs C i tb ts) :=
  psImp (L2H.ps_try_asH (i := i) (tb := fun W D σ H => ∃ (B' : Bs) (Es : XS), (∀ C ρ m σ H, Es C ρ m → At X.K B' σ H ρ m → W (.ref C) none σ H) ∧ uS X.K B' (tb Es) D σ H)
      (ts := fun a cls d D σ H => cls = .ref C ∧ d = none ∧ ∃ B' : Bs, uS X.K B' (ts a) D σ H) hs hf hN hi hln hc takes0
      (fun W pn xe sub tk _ => ⟨fun pins s σ H D I ⟨B', Es, hw, h⟩ => (hb B' Es W pn xe sub tk hw).run pins s σ H D I h⟩)
      (fun a oe cls d pn hz hf => ⟨fun pins s σ H D I ⟨e1, e2, B', h⟩ => by subst e1 e2; exact (hsu B' a oe pn hz hf).run pins s σ H D I h⟩))
    fun D σ H ⟨ρ, m, E, A, q, n1, n2, n3, n4⟩ => by
      refine ⟨⟨fun m' H' => B.P m' H' ∧ Step m H m' H', fun _ _ _ _ a b => ⟨B.cl _ _ _ _ a.1 b, a.2.trans b⟩⟩, _, ?_, ρ, m, E, ⟨A.s, A.r, A.b, Step.refl⟩, q, n1, n2, n3, n4⟩
      intro C' ρ' m' σ' H' ⟨e1, hts⟩ A'
      subst e1
      refine ⟨true, hx, fun _ a ha => ⟨rfl, rfl, B, ρ'.set i (some (.ref a)), m', _, ⟨Ss.set Rep.ref i A'.s, A'.r, A'.b.1⟩, hts a (A'.r.out ha), ?_, ?_, ?_, ?_⟩, fun z => nomatch z⟩
      · intro ρ2 m2 σ2 H2 z r2 t2 s2
        exact n1 _ _ _ _ z r2 (A'.b.2.trans t2) (Ss.setN i s2)
      · intro d m2 v H2 z r2 t2 x2
        exact n2 _ _ _ _ z r2 (A'.b.2.trans t2) x2
      · intro ρ2 m2 σ2 H2 z r2 t2 s2
        exact n3 _ _ _ _ z r2 (A'.b.2.trans t2) (Ss.setN i s2)
      · intro ρ2 m2 σ2 H2 z r2 t2 s2
        exact n4 _ _ _ _ z r2 (A'.b.2.trans t2) (Ss.setN i s2)
end
section
variable {X : Cx} {B : Bs} {C : Addr} {x : Str} {np pos pos' : Pos}
def wTryO (C : Addr) (tb : XS → TSm) (ts : TSm) : TSm := fun E ρ m => tb (fun C' ρ' m' => C' = C ∧ ts E ρ' m') E ρ m
theorem bs_try_only {c : Value} {body suite : List Stmt} {b₀ : Stmt} {tb : XS → TSm} {ts : TSm} (hs : X.stack = X.env :: X.outer) (hf : X.env.frame = some X.env.locals) (hc : Names X x c)
    (hx : PySem.W.exmOne X.K (.ref C) c = some true)
    (hb : ∀ (B' : Bs) (Es : XS) (W : WX) (pn : List (Addr × Obj)) (xe : Value → Shared → Prop), (∀ q ∈ X.pn, q ∈ pn) → TakesB (X.tr pn xe) W → (∀ C ρ m σ H, Es C ρ m → At X.K B' σ H ρ m → W (.ref C) none σ H) → MSs (X.tr pn xe) B' body (tb Es))
    (hsu : ∀ (B' : Bs) (a : Addr) (pn : List (Addr × Obj)), HC (X.suite a pn) → MSs (X.suite a pn) B' (b₀ :: suite) ts) :
    MS X B (.Try body [.ExceptHandler (some (.Name x np)) none (b₀ :: suite) pos'] [] [] pos) (wTryO C tb ts) :=
  psImp (ps_try_onlyB (tb := fun W D σ H => ∃ (B' : Bs) (Es : XS), (∀ C ρ m σ H, Es C ρ m → At X.K B' σ H ρ m → W (.ref C) none σ H) ∧ uS X.K B' (tb Es) D σ H)
      (ts := fun a cls d D σ H => ∃ B' : Bs, uS X.K B' ts D σ H) hs hf hc takes0
      (fun W pn xe sub tk _ => ⟨fun pins s σ H D I ⟨B', Es, hw, h⟩ => (hb B' Es W pn xe sub tk hw).run pins s σ H D I h⟩)
      (fun a cls d pn hot => ⟨fun pins s σ H D I ⟨B', h⟩ => (hsu B' a pn hot).run pins s σ H D I h⟩))
    fun D σ H ⟨ρ, m, E, A, q, n1, n2, n3, n4⟩ => by
      refine ⟨⟨fun m' H' => B.P m' H' ∧ Step m H m' H', fun _ _ _ _ a b => ⟨B.cl _ _ _ _ a.1 b, a.2.trans b⟩⟩, _, ?_, ρ, m, E, ⟨A.s, A.r, A.b, Step.refl⟩, q, n1, n2, n3, n4⟩
      intro C' ρ' m' σ' H' ⟨e1, hts⟩ A'
      subst e1
      refine ⟨true, hx, fun _ a ha => ⟨B, ρ', m', _, ⟨A'.s, A'.r, A'.b.1⟩, hts, ?_, ?_, ?_, ?_⟩, fun z => nomatch z⟩
      · intro ρ2 m2 σ2 H2 z r2 t2 s2
        exact n1 _ _ _ _ z r2 (A'.b.2.trans t2) s2
      · intro d m2 v H2 z r2 t2 x2
        exact n2 _ _ _ _ z r2 (A'.b.2.trans t2) x2
      · intro ρ2 m2 σ2 H2 z r2 t2 s2
        exact n3 _ _ _ _ z r2 (A'.b.2.trans t2) s2
      · intro ρ2 m2 σ2 H2 z r2 t2 s2
        exact n4 _ _ _ _ z r2 (A'.b.2.trans t2) s2
end
section
variable {ρ : StM} {m : Mem} {E : EndsM} {pa : TEm}
theorem i_raiseS {Em : XM} {C : Addr} (h : pa ρ m fun d m' => ∃ t, d = .str t ∧ Em C m') : wRaiseS Em C pa E ρ m := h
theorem i_tryO {C : Addr} {tb : XS → TSm} {ts : TSm} (h : tb (fun C' ρ' m' => C' = C ∧ ts E ρ' m') E ρ m) : wTryO C tb ts E ρ m := h
end
end Mm
namespace Mm
open PySem PySem.Spec L2
open PyProof.Rows (Subscript_ item_listR)
section
variable {X : Cx} {B : Bs} {st : Stmt} {rest : List Stmt} {e o a b : Expr} {es : List Expr} {pos : Pos} {p pa pb po pix : TEm} {t u : TSm} {la : TAm}
def MST (X : Cx) (B : Bs) (st : Stmt) (t : TSm) : Prop := PST X st (uS X.K B t)
def MSsT (X : Cx) (B : Bs) (st : List Stmt) (t : TSm) : Prop := PSsT X st (uS X.K B t)
def MXT (X : Cx) (B : Bs) (e : Expr) (p : TEm) : Prop := PET X e (uE X.K B p)
theorem mxt_of (h : MX X B e p) : MXT X B e p := fun pins s σ H Q _ I q => h.run pins s σ H Q I q
theorem mst_of (h : MS X B st t) : MST X B st t := fun pins s σ H D _ I q => h.run pins s σ H D I q
theorem seq_go {K : PySem.W.Frag} {D : Ends} {σ : St} {H : Hp} (h : uS K B (wSeq t u) D σ H) : tSeq (uS K B t) (uS K B u) D σ H := by
  obtain ⟨ρ, m, E, A, q, n, rt, bk, ct⟩ := h
  refine ⟨ρ, m, { E with nx := u E }, A, q, ?_, rt, bk, ct⟩
  intro ρ' m' σ' H' q' r' t' s'
  exact ⟨ρ', m', E, A.step' r' t' s', q', n.trans t', fun d m2 v H2 q2 r2 t2 x2 => rt d m2 v H2 q2 r2 (t'.trans t2) x2, bk.trans t', ct.trans t'⟩
theorem msst_cons (h1 : MST X B st t) (h2 : MSsT X B rest u) : MSsT X B (st :: rest) (wSeq t u) := fun pins s σ H D h0 I h => psst_cons h1 h2 pins s σ H D h0 I (seq_go h)
theorem msst_one (h : MST X B st t) : MSsT X B [st] t := fun pins s σ H D h0 I hq => by
  refine wpAny_execs_cons (wpAny_mono (h pins s σ H D h0 I hq) (fun f s1 q => ?_) fun _ _ x => x)
  cases f with
  | next => exact wpAny_execs_nil q
  | ret v => exact q
  | brk => exact q
  | cont => exact q
theorem mst_set {i : Nat} {x : Str} {pos' : Pos} (hN : X.N.Nodup) (hi : X.N[i]? = some x) (hx : Loc X.env.scope x) (he : MXT X B e p) (hs : swapsWith e (some (.Name x pos')) pos.line X.env = pure false := by rfl) (hf : X.fn x = true ∨ X.env.scope.names.lookup x = some .local := by first | exact .inl rfl | exact .inr rfl | assumption) :
    MST X B (.Assign [.Name x pos'] e pos) (wSet i p) := fun pins s σ H D h0 I ⟨ρ, m, E, A, q, n, _⟩ => by
  refine wpAny_Assign_Name (thn (he pins s σ H _ h0 I ⟨ρ, m, _, A, q, fun d m1 v H1 q1 r1 t1 x1 => n _ _ _ _ q1 r1 t1 (Ss.set x1 i (A.s.stay (t1.tups A.r)))⟩) fun v s1 ⟨y, H1, I1, r1, q1⟩ => ?_) hs
  exact store_ok I1 hN hi hx r1 (fun s2 I2 => ⟨_, H1, I2, q1⟩) hf
theorem mst_ret (he : MXT X B e p) : MST X B (.Return (some e) pos) (wRet p) := fun pins s σ H D h0 I ⟨ρ, m, E, A, q, n, rt, _⟩ =>
  wpAny_Return_some (thn (he pins s σ H _ h0 I ⟨ρ, m, _, A, q, rt⟩) fun v s1 ⟨x, H1, I1, r1, q1⟩ => ⟨x, σ, H1, I1, r1, q1⟩)
theorem binTT {ta tb : TE} (ha : PET X a ta) (hb : PET X b tb) {pins : List (Addr × Obj)} {s : Shared} {σ : St} {H : Hp} {R : V → V → Hp → Prop} (h0 : 1 ≤ s.toks) (I : Inv X pins σ H s)
    (h : ta σ H fun x H1 => tb σ H1 fun y H2 => R x y H2) {Q : Value → Shared → Prop} {f : Value → Value → Sem Value}
    (hf : ∀ v u s2 x y H2, Inv X pins σ H2 s2 → RelV x v → RelV y u → R x y H2 → wpAny (model X.prog X.w) X.A (f v u) Q X.xe s2) :
    wpAny (model X.prog X.w) X.A (eval a X.env) (fun v s₁ => wpAny (model X.prog X.w) X.A (eval b X.env) (fun u s₂ => wpAny (model X.prog X.w) X.A (f v u) Q X.xe s₂) X.xe s₁) X.xe s := by
  refine wpAny_mono (PySem.wpAny_toks (ha pins s σ H _ h0 I h)) (fun v s1 q => ?_) fun _ _ z => z.2
  obtain ⟨hk, x, H1, I1, r1, q1⟩ := q
  refine thn (hb pins s1 σ H1 _ (Nat.le_trans h0 hk) I1 q1) fun u s2 ⟨y, H2, I2, r2, q2⟩ => ?_
  exact hf v u s2 x y H2 I2 r1 r2 q2
theorem mxt_op {op : Operator} {r : R2m} (ho : MOp X (binaryOp op) r) (ha : MXT X B a pa) (hb : MXT X B b pb) : MXT X B (.BinOp a op b pos) (wBin r pa pb) := fun pins s σ H Q h0 I h =>
  wpAny_BinOp (binTT ha hb h0 I (bin_go (r0 := uR2 X.K r) (fun _ _ _ _ q => q) h) fun v u s2 x y H2 I2 rx ry q => ho pins s2 σ H2 x y v u Q I2 rx ry q)
theorem mxt_cmp {op : CmpOp} {r : R2m} (ho : MOp X (compareOp op) r) (ha : MXT X B a pa) (hb : MXT X B b pb) (hm : behindInMarks op b = false) : MXT X B (.Compare a [op] [b] pos) (wBin r pa pb) := fun pins s σ H Q h0 I h =>
  wpAny_Compare1 (binTT ha hb h0 I (bin_go (r0 := uR2 X.K r) (fun _ _ _ _ q => q) h) fun v u s2 x y H2 I2 rx ry q => ho pins s2 σ H2 x y v u Q I2 rx ry q) hm
def NoBk (K : PySem.W.Frag) : Prop := ∃ oc od n osl, K.lookup cStatics = some ⟨oc, od, .dict #[] n, osl⟩
theorem NoBk.nb {pins : List (Addr × Obj)} {s : Shared} {σ : St} {H : Hp} (h : NoBk X.K) (I : Inv X pins σ H s) : PySem.NoneBooked s.heap := by
  obtain ⟨oc, od, n, osl, e⟩ := h
  exact ⟨fun _ => none, ⟨_, _, _, I.kIn _ _ e, rfl, (fun e he => by cases he; rename_i h; simp at h), fun _ => rfl⟩, rfl⟩
inductive ConstL : List Expr → List Str → Prop where
  | nil : ConstL [] []
  | cons {x : Str} {j : Nat} {p : Pos} {es : List Expr} {xs : List Str} : ConstL es xs → ConstL (.Constant (.str x) j p :: es) (x :: xs)
def TkV (n : Nat) : List Str → List Value → Prop
  | [], us => us = []
  | x :: xs, us => ∃ t us', us = .str x t :: us' ∧ n ≤ t ∧ TkV n xs us'
theorem TkV.mono {n n' : Nat} (h : n' ≤ n) : ∀ {xs : List Str} {us : List Value}, TkV n xs us → TkV n' xs us
  | [], _, q => q
  | _ :: _, _, ⟨t, us', e, k, q⟩ => ⟨t, us', e, Nat.le_trans h k, TkV.mono h q⟩
theorem TkV.len {n : Nat} : ∀ {xs : List Str} {us : List Value}, TkV n xs us → us.length = xs.length
  | [], _, q => by rw [q]; rfl
  | _ :: _, _, ⟨t, us', e, k, q⟩ => by rw [e]; simp [TkV.len q]
theorem TkV.vals {n : Nat} : ∀ {xs : List Str} {us : List Value}, TkV n xs us → Vals (xs.map V.str) us
  | [], _, q => by rw [q]; exact .nil
  | _ :: _, _, ⟨t, us', e, k, q⟩ => by rw [e]; exact .cons ⟨t, rfl⟩ (TkV.vals q)
theorem TkV.get {n : Nat} {z : Str} : ∀ {xs : List Str} {us : List Value} {i : Nat}, TkV n xs us → xs[i]? = some z → ∃ t, us[i]? = some (.str z t) ∧ n ≤ t
  | [], _, _, _, h => by simp at h
  | x :: xs, _, 0, ⟨t, us', e, k, q⟩, h => by
    simp at h; subst h
    exact ⟨t, by rw [e]; rfl, k⟩
  | x :: xs, _, i + 1, ⟨t, us', e, k, q⟩, h => by
    obtain ⟨t', e', k'⟩ := TkV.get q (by simpa using h)
    exact ⟨t', by rw [e]; simpa using e', k'⟩
theorem consts_any {A : Around} {prog : Program} {w : World} {env : Env} {E : Value → Shared → Prop} {pos : Pos} : ∀ {es : List Expr} {xs : List Str} {s : Shared} {Q : List Value → Shared → Prop}, ConstL es xs →
    (∀ us k, s.toks ≤ k → TkV s.toks xs us → Q us { s with toks := k }) → wpAny (model prog w) A (spliced (backTo pos (starEach es env))) Q E s
  | _, _, s, Q, .nil, h => Calls.spliced_nil (h [] s.toks (Nat.le_refl _) rfl)
  | _, _, s, Q, .cons (x := x) (j := j) (p := p) (es := es) (xs := xs) c, h => by
    show wpAny _ _ (spliced ((false, eval (.Constant (.str x) j p) env) :: backTo pos (starEach es env))) _ _ s
    refine Calls.spliced_cons (Calls.Constant_str ?_)
    refine consts_any c fun us k hk ht => ?_
    exact h (.str x s.toks :: us) k (Nat.le_trans (Nat.le_succ _) hk) ⟨s.toks, us, rfl, Nat.le_refl _, ht.mono (Nat.le_succ _)⟩
def wReplIx (y : Str) (ls : List Str) (po pix : TEm) : TEm := fun ρ m Q => po ρ m fun d m1 => ∃ x, d = .str x ∧ pix ρ m1 fun di m2 => ∃ (i : Int) (z : Str), di = .int i ∧ 0 ≤ i ∧ i < 2 ^ 63 ∧ ls[i.toNat]? = some z ∧ x.length + (x.length + 1) * z.length ≤ 16777216 ∧ Q (.str (Txt.replace x y z)) m2
theorem mxt_replIx {y : Str} {ls : List Str} {lp sp apos c0 : Pos} {j0 : Nat} {ix : Expr} (nb : NoBk X.K) (hes : ConstL es ls) (hlen : ls.length ≤ sizeLine) (ho : MXT X B o po) (hix : MX X B ix pix)
    (hst : starEach [.Constant (.str y) j0 c0, .Subscript (.List es lp) ix sp] X.env = [(false, eval (.Constant (.str y) j0 c0) X.env), (false, eval (.Subscript (.List es lp) ix sp) X.env)] := by rfl)
    (hs : PlainIx ix := by exact fun _ _ => rfl) (hbase : attributeBase o "replace" X.env (eval o X.env) = eval o X.env := by rfl) (hline : (apos.endLine == pos.line) = true := by rfl) :
    MXT X B (.Call (.Attribute o "replace" apos) [.Constant (.str y) j0 c0, .Subscript (.List es lp) ix sp] [] pos) (wReplIx y ls po pix) := fun pins s σ H Q h0 I ⟨ρ, m, Qm, A, q, k⟩ => by
  refine PySem.Call_method2 hbase hst hline (wpAny_mono (PySem.wpAny_toks (ho pins s σ H (fun v H1 => ∃ d m1, (∃ x, d = .str x ∧ pix ρ m1 fun di m2 => ∃ (i : Int) (z : Str), di = .int i ∧ 0 ≤ i ∧ i < 2 ^ 63 ∧ ls[i.toNat]? = some z ∧ x.length + (x.length + 1) * z.length ≤ 16777216 ∧ Qm (.str (Txt.replace x y z)) m2) ∧ RM X.K H1 m1 ∧ Step m H m1 H1 ∧ Rep X.K H1 d v) h0 I
    ⟨ρ, m, _, A, q, fun d m1 v H1 q1 r1 t1 x1 => ⟨d, m1, q1, r1, t1, x1⟩⟩)) (fun v s1 hq => ?_) fun _ _ z => z.2)
  obtain ⟨hk, v', H1, I1, r1, d, m1, ⟨x, ed, q1⟩, rm1, st1, rep1⟩ := hq
  subst ed
  have ev : v' = V.str x := Rep.str_iff.mp rep1
  subst ev
  obtain ⟨tx, ev⟩ := r1
  subst ev
  have hy : 1 ≤ s1.toks := Nat.le_trans h0 hk
  refine ⟨"str", _, F.plainAttrs_str, F.slot_str_replace, F.type_str_replace, typeIs_str _ _ _, (fun _ e => nomatch e), Calls.callWith_builtin rfl (Calls.evalArgs_plain (Calls.spliced_cons (Calls.Constant_str ?_)))⟩
  refine Calls.spliced_cons (Subscript_ (wpAny_List_spliced (consts_any hes fun us k2 hk2 tl => ⟨by rw [tl.len]; exact hlen, ?_⟩)))
  obtain ⟨ad, had⟩ : ∃ ad, s1.heap.objs.size = ad := ⟨_, rfl⟩
  have hfree : H1 ad = none := I1.hok.fresh (Nat.le_of_eq had)
  have I2 : Inv X pins σ (upd H1 ad (.frz { cls := .type "list", data := .seq us.toArray 0 } (.lst (ls.map V.str)))) { s1 with heap := s1.heap.push { cls := .type "list", data := .seq us.toArray 0 }, toks := k2 } :=
    I1.laid (t' := k2) (fun b u e => Heap.get?_push_of_some _ e) (Nat.le_of_eq had) ⟨by rw [← had]; exact Heap.get?_push_size _ rfl, by rw [List.length_map]; exact hlen, us, 0, tl.vals, by rw [← had]; exact Heap.get?_push_size _ rfl⟩
  have A1 := (A.step rm1 st1).step (rm1.hid (u := .frz { cls := .type "list", data := .seq us.toArray 0 } (.lst (ls.map V.str))) hfree) (Step.hid rm1 hfree)
  have rm2 := rm1.hid (u := .frz { cls := .type "list", data := .seq us.toArray 0 } (.lst (ls.map V.str))) hfree
  have st2 := Step.hid (u := .frz { cls := .type "list", data := .seq us.toArray 0 } (.lst (ls.map V.str))) rm1 hfree
  refine thn (hix.run pins _ σ _ (fun w H2 => ∃ di m2, (∃ (i : Int) (z : Str), di = .int i ∧ 0 ≤ i ∧ i < 2 ^ 63 ∧ ls[i.toNat]? = some z ∧ x.length + (x.length + 1) * z.length ≤ 16777216 ∧ Qm (.str (Txt.replace x y z)) m2) ∧ RM X.K H2 m2 ∧ Step m1 _ m2 H2 ∧ Rep X.K H2 di w) I2
    ⟨ρ, m1, _, A1, q1, fun d m2 w H2 q2 r2 t2 x2 => ⟨d, m2, q2, r2, t2, x2⟩⟩) fun w s4 hq => ?_
  obtain ⟨w', H2, I3, rw', di, m2, ⟨i, z, ei, h1, h2, h3, h4, q3⟩, rm3, st3, rep3⟩ := hq
  subst ei
  have ew : w' = V.int i := Rep.int_iff.mp rep3
  subst ew
  obtain ⟨ti, ew⟩ := rw'
  subst ew
  have hfz := (st3 ad _ (upd_same ..) (.inl (rm1.out hfree))).1
  have hob := (I3.hok ad _ hfz).1
  obtain ⟨tz, ez, hz⟩ := tl.get h3
  rw [had]
  refine item_listR (l := ad) (items := us.toArray) ⟨_, hob, rfl, 0, rfl⟩ h1 h2 (by simpa using ez) ?_ (hs _ _)
  refine Calls.spliced_nil ?_
  have ht : s1.toks + 1 ≤ tz := hz
  have hu0 : s1.toks ≠ 0 := Nat.ne_of_gt hy
  have hv0 : tz ≠ 0 := Nat.ne_of_gt (Nat.lt_of_lt_of_le (Nat.succ_pos _) ht)
  have huv : s1.toks ≠ tz := Nat.ne_of_lt (Nat.lt_of_lt_of_le (Nat.lt_succ_self _) ht)
  exact PySem.SC.replaceA hu0 hv0 huv h4 (fun t' k' => ⟨V.str (Txt.replace x y z), H2, I3.tok k', ⟨t', rfl⟩, k _ _ _ _ q3 rm3 (st1.trans (st2.trans st3)) Rep.str⟩) (nb.nb I3)
def wRepl (y z : Str) (po : TEm) : TEm := fun ρ m Q => po ρ m fun d m1 => ∃ x, d = .str x ∧ x.length + (x.length + 1) * z.length ≤ 16777216 ∧ Q (.str (Txt.replace x y z)) m1
theorem mxt_repl {y z : Str} {apos c0 c1 : Pos} {j0 j1 : Nat} (hyz : (y == z) = false) (ho : MXT X B o po)
    (hst : starEach [.Constant (.str y) j0 c0, .Constant (.str z) j1 c1] X.env = [(false, eval (.Constant (.str y) j0 c0) X.env), (false, eval (.Constant (.str z) j1 c1) X.env)] := by rfl)
    (hbase : attributeBase o "replace" X.env (eval o X.env) = eval o X.env := by rfl) (hline : (apos.endLine == pos.line) = true := by rfl) :
    MXT X B (.Call (.Attribute o "replace" apos) [.Constant (.str y) j0 c0, .Constant (.str z) j1 c1] [] pos) (wRepl y z po) := fun pins s σ H Q h0 I ⟨ρ, m, Qm, A, q, k⟩ => by
  refine PySem.Call_method2 hbase hst hline (wpAny_mono (PySem.wpAny_toks (ho pins s σ H (fun v H1 => ∃ d m1, (∃ x, d = .str x ∧ x.length + (x.length + 1) * z.length ≤ 16777216 ∧ Qm (.str (Txt.replace x y z)) m1) ∧ RM X.K H1 m1 ∧ Step m H m1 H1 ∧ Rep X.K H1 d v) h0 I
    ⟨ρ, m, _, A, q, fun d m1 v H1 q1 r1 t1 x1 => ⟨d, m1, q1, r1, t1, x1⟩⟩)) (fun v s1 hq => ?_) fun _ _ z => z.2)
  obtain ⟨hk, v', H1, I1, r1, d, m1, ⟨x, ed, h4, q1⟩, rm1, st1, rep1⟩ := hq
  subst ed
  have ev : v' = V.str x := Rep.str_iff.mp rep1
  subst ev
  obtain ⟨tx, ev⟩ := r1
  subst ev
  have hy : 1 ≤ s1.toks := Nat.le_trans h0 hk
  refine ⟨"str", _, F.plainAttrs_str, F.slot_str_replace, F.type_str_replace, typeIs_str _ _ _, (fun _ e => nomatch e), Calls.callWith_builtin rfl (Calls.evalArgs_plain (Calls.spliced_cons (Calls.Constant_str ?_)))⟩
  refine Calls.spliced_cons (Calls.Constant_str (Calls.spliced_nil ?_))
  have hu0 : s1.toks ≠ 0 := Nat.ne_of_gt hy
  have hv0 : s1.toks + 1 ≠ 0 := Nat.succ_ne_zero _
  have huv : s1.toks ≠ s1.toks + 1 := Nat.ne_of_lt (Nat.lt_succ_self _)
  refine PySem.SC.replace hu0 hv0 huv hyz h4 fun t' k' => ⟨V.str (Txt.replace x y z), H1, I1.tok k', ⟨t', rfl⟩, k _ _ _ _ q1 rm1 st1 Rep.str⟩
def PE1 (X : Cx) (e : Expr) (t : TE) : Prop :=
  ∀ (pins : List (Addr × Obj)) (s : Shared) (σ : St) (H : Hp) (Q : VK), Inv X pins σ H s → t σ H Q → wpAny (model X.prog X.w) X.A (eval e X.env) (fun v s' => 1 ≤ s'.toks ∧ EP X pins σ Q v s') X.xe s
def PA1 (X : Cx) (es : List Expr) (t : TA) : Prop :=
  ∀ (pos : Pos) (pins : List (Addr × Obj)) (s : Shared) (σ : St) (H : Hp) (Q : List V → Hp → Prop), Inv X pins σ H s → t σ H Q → wpAny (model X.prog X.w) X.A (spliced (backTo pos (starEach es X.env))) (fun us s' => 1 ≤ s'.toks ∧ AP X pins σ Q us s') X.xe s
def MX1 (X : Cx) (B : Bs) (e : Expr) (p : TEm) : Prop := PE1 X e (uE X.K B p)
def MA1 (X : Cx) (B : Bs) (es : List Expr) (p : TAm) : Prop := PA1 X es (uA X.K B p)
theorem mx1_int {i : Int} {j : Nat} : MX1 X B (.Constant (.int i) j pos) (wC (.int i)) := fun pins s σ H Q I h => by
  have h2 : tC (.int i) σ H Q := (by
    obtain ⟨ρ, m, Qm, A, q, k⟩ := h
    exact k _ _ _ _ q A.r Step.refl Rep.int)
  exact wpAny_Constant_int ⟨Nat.le_add_left 1 _, .int i, H, I.tok _, ⟨_, rfl⟩, h2⟩
theorem cons_go {K : PySem.W.Frag} {σ : St} {H : Hp} {Q : List V → Hp → Prop} (h : uA K B (wCons pa la) σ H Q) : tCons (uE K B pa) (uA K B la) σ H Q := by
  obtain ⟨ρ, m, Qm, A, q, k⟩ := h
  refine ⟨ρ, m, _, A, q, fun d m1 v H1 q1 r1 t1 x1 => ?_⟩
  refine ⟨ρ, m1, _, A.step r1 t1, q1, fun ds m2 vs H2 q2 r2 t2 x2 => ?_⟩
  exact k _ _ _ _ q2 r2 (t1.trans t2) (Reps.cons (x1.stay (t2.tups r1)) x2)
theorem ma1_l (ha : MX1 X B e pa) (hr : MA X B es la) (hs : starEach (e :: es) X.env = (false, eval e X.env) :: starEach es X.env := by rfl) : MA1 X B (e :: es) (wCons pa la) := fun pos pins s σ H Q I h => by
  rw [hs]
  show wpAny _ _ (spliced ((false, eval e X.env) :: backTo pos (starEach es X.env))) _ _ s
  refine Calls.spliced_cons (wpAny_mono (ha pins s σ H _ I (cons_go h)) (fun u s1 ⟨h1, x, H1, I1, r1, q1⟩ => ?_) fun _ _ z => z)
  exact wpAny_mono (PySem.wpAny_toks_of h1 (hr.run pos pins s1 σ H1 _ I1 q1)) (fun us s2 ⟨h2, xs, H2, I2, r2, q2⟩ => ⟨h2, x :: xs, H2, I2, .cons r1 r2, q2⟩) fun _ _ z => z.2
theorem ma1_r (ha : MX X B e pa) (hr : MA1 X B es la) (hs : starEach (e :: es) X.env = (false, eval e X.env) :: starEach es X.env := by rfl) : MA1 X B (e :: es) (wCons pa la) := fun pos pins s σ H Q I h => by
  rw [hs]
  show wpAny _ _ (spliced ((false, eval e X.env) :: backTo pos (starEach es X.env))) _ _ s
  refine Calls.spliced_cons (thn (ha.run pins s σ H _ I (cons_go h)) fun u s1 ⟨x, H1, I1, r1, q1⟩ => ?_)
  exact wpAny_mono (hr pos pins s1 σ H1 _ I1 q1) (fun us s2 ⟨h2, xs, H2, I2, r2, q2⟩ => ⟨h2, x :: xs, H2, I2, .cons r1 r2, q2⟩) fun _ _ z => z
theorem mx1_call {CX : CXT} {k : Nat} {f : Addr} {fd : FuncData} {ps : List Str} {sp : SpM} {Em : XM} {x : Str} {p : Pos} (F : FnM X.prog X.w X.K X.mg X.base CX k f fd ps sp) (hr : Room k X.A) (hm : X.mg x = some (.ref f)) (hk : PySem.W.keepIn X.K (.ref f) = true) (hb : Binds X.K fd ps []) (hx : Passes CX X (uX X.K B Em))
    (ha : MA1 X B (e :: es) la) (hg : Gl X x := by rfl) (hdb : (x == ("__debug__" : Str)) = false := by decide) (he : starEach (e :: es) X.env = (false, eval e X.env) :: starEach es X.env := by rfl) (hpl : (backTo pos (starEach es X.env)).any (·.1) = false := by rfl) :
    MX1 X B (.Call (.Name x p) (e :: es) [] pos) (wCall sp Em la) := fun pins s σ H Q I h => by
  refine wpAny_Call_Name_kw (ld_glob I hg hm ?_ hdb)
  refine PySem.W.callWith_K (h₀ := X.base) I.ok.mod.kin hk (wpAny_mono (ha pos pins s σ H _ I (call_go h)) (fun us s1 ⟨h1, vs, H1, I1, r, q⟩ => ⟨I1.kIn, ?_⟩) fun _ _ z => z) he hpl
  exact wpAny_mono (PySem.wpAny_toks_of h1 (run_fn F hr hb .nil hx I1 r q)) (fun _ _ z => z) fun _ _ z => z.2
theorem mss_tok {i : Nat} {x : Str} {pos' : Pos} (hN : X.N.Nodup) (hi : X.N[i]? = some x) (hx : Loc X.env.scope x) (he : MX1 X B e p) (h2 : MSsT X B rest u) (hs : swapsWith e (some (.Name x pos')) pos.line X.env = pure false := by rfl) (hf : X.fn x = true ∨ X.env.scope.names.lookup x = some .local := by first | exact .inl rfl | exact .inr rfl | assumption) :
    MSs X B (.Assign [.Name x pos'] e pos :: rest) (wSeq (wSet i p) u) := ⟨fun pins s σ H D I h => by
  obtain ⟨ρ, m, E, A, q, n, rt, bk, ct⟩ := seq_go h
  refine wpAny_execs_cons (wpAny_Assign_Name (wpAny_mono (he pins s σ H _ I ⟨ρ, m, _, A, q, fun d m1 v H1 q1 r1 t1 x1 => n _ _ _ _ q1 r1 t1 (Ss.set x1 i (A.s.stay (t1.tups A.r)))⟩) (fun v s1 ⟨h1, y, H1, I1, r1, q1⟩ => ?_) fun _ _ z => z) hs)
  refine wpAny_mono (PySem.wpAny_toks_of h1 (store_ok (Q := fun _ s2 => Inv X pins (σ.set i (some y)) H1 s2) I1 hN hi hx r1 (fun s2 I2 => I2) hf)) (fun _ s2 z => ?_) fun _ _ z => z.2
  exact h2 pins s2 _ H1 D z.1 z.2 q1⟩
end
section
variable {ρ : StM} {m : Mem} {Q : KM} {po pix : TEm} {y z : Str} {ls : List Str}
theorem i_replIx (h : po ρ m fun d m1 => ∃ x, d = .str x ∧ pix ρ m1 fun di m2 => ∃ (i : Int) (z : Str), di = .int i ∧ 0 ≤ i ∧ i < 2 ^ 63 ∧ ls[i.toNat]? = some z ∧ x.length + (x.length + 1) * z.length ≤ 16777216 ∧ Q (.str (Txt.replace x y z)) m2) : wReplIx y ls po pix ρ m Q := h
theorem i_repl (h : po ρ m fun d m1 => ∃ x, d = .str x ∧ x.length + (x.length + 1) * z.length ≤ 16777216 ∧ Q (.str (Txt.replace x y z)) m1) : wRepl y z po ρ m Q := h
end
end Mm
namespace Mm
open PySem L2
open PyProof.Rows (envOfC)
inductive Jn where
  | plus | minus | times | most | least
def Jn.w : Jn → Str
  | .plus => "plus" | .minus => "minus" | .times => "times" | .most => "most" | .least => "least"
def Jn.ap : Jn → Int → Int → Int
  | .plus, a, b => a + b | .minus, a, b => a - b | .times, a, b => a * b | .most, a, b => if b > a then b else a | .least, a, b => if b < a then b else a
inductive Told where
  | num (i : Int) | read (x : Str) | bin (j : Jn) (a b : Told)
def Told.d : Told → D
  | .num i => .tup [.str "num", .int i]
  | .read x => .tup [.str "read", .str x]
  | .bin j a b => .tup [.str j.w, a.d, b.d]
def Told.dp : Told → Nat
  | .bin _ a b => max a.dp b.dp + 1
  | _ => 0
abbrev Row := List (Str × Int)
def Row.o (r : Row) : O := .dK (r.map fun p => (.inr p.1, .int p.2))
def Row.at (r : Row) (x : Str) : Int := (r.lookup x).getD 0
def Told.val (r : Row) : Told → Int
  | .num i => i
  | .read x => r.at x
  | .bin j a b => j.ap (a.val r) (b.val r)
def Told.ok (r : Row) : Told → Prop
  | .num i => i.natAbs < 2 ^ 50
  | .read x => ∃ i, r.lookup x = some i ∧ i.natAbs < 2 ^ 50
  | .bin _ a b => a.ok r ∧ b.ok r
structure Df (K : PySem.W.Frag) (mg : Str → Option Value) (x : Str) (f : Addr) (fd : FuncData) (ps : List Str) : Prop where
  b : Binds K fd ps []
  k : PySem.W.keepIn K (.ref f) = true
  m : mg x = some (.ref f)
structure Bl (mg : Str → Option Value) : Prop where
  b_ValueError : mg "ValueError" = none
  b_int : mg "int" = none
  b_range : mg "range" = none
  b_isinstance : mg "isinstance" = none
  b_bool : mg "bool" = none
  b_str : mg "str" = none
  b_dict : mg "dict" = none
  b_all : mg "all" = none
  b_tuple : mg "tuple" = none
  b_len : mg "len" = none
  b_list : mg "list" = none
structure Gv (K : PySem.W.Frag) (mg : Str → Option Value) : Prop where
  JOINS : GlT K mg "JOINS" (.tup [.str "plus", .str "minus", .str "times", .str "most", .str "least"])
  SMALL_contracts : GlT K mg "SMALL_contracts" (.str "abcdefghijklmnopqrstuvwxyz")
  NONE : GlT K mg "NONE" (.tup [.str "none"])
  MOST_DEEP : GlT K mg "MOST_DEEP" (.int 12)
  MOST_HOURS : GlT K mg "MOST_HOURS" (.int 99)
  MOST_OFTEN : GlT K mg "MOST_OFTEN" (.int 9)
  GREATEST : GlT K mg "GREATEST" (.int 1000000000000)
  SMALL_notes : GlT K mg "SMALL_notes" (.str "abcdefghijklmnopqrstuvwxyz")
  FIGURES : GlT K mg "FIGURES" (.str "0123456789")
  MOST_SIGNS : GlT K mg "MOST_SIGNS" (.int 4000)
  MOST_FIGURES : GlT K mg "MOST_FIGURES" (.int 13)
  MOST_OPEN : GlT K mg "MOST_OPEN" (.int 40)
theorem fn_none {P : Program} {w : World} {K : PySem.W.Frag} {mg : Str → Option Value} {base : Heap} {CX : CXT} {k : Nat} {f : Addr} {fd : FuncData} {ps : List Str} {sp : SpM} (h : ∀ ds m Q E, ¬ sp ds m Q E) : FnM P w K mg base CX k f fd ps sp :=
  ⟨fun vs H Q E ⟨ds, m, Qm, Em, _, _, z, _⟩ => (h _ _ _ _ z).elim, fun A outer s H args us vs Q E _ _ _ _ ⟨ds, m, Qm, Em, _, _, z, _⟩ => (h _ _ _ _ z).elim⟩
def topS (i : Nat) : Stmt := PySem.Challenge.pw_contractbook_k29_whole_read_back.main.body.getD i (.Pass ⟨0, 0, 0, 0⟩)
variable {P : Program} {w : World} {K : PySem.W.Frag} {mg : Str → Option Value} {base : Heap}
local macro_rules | `(tactic| wtm_at "mem") => `(tactic| with_reducible (apply rd_frz; wtm_at "mem"))
local macro_rules | `(tactic| wtm_at "mem") => `(tactic| with_reducible (apply rd_I; wtm_at "mem"))
local macro_rules | `(tactic| wtm_at "mem") => `(tactic| with_reducible (apply rd_T; wtm_at "mem"))
local macro_rules | `(tactic| wtm_at "mem") => `(tactic| with_reducible (apply rd_L; wtm_at "mem"))
local macro_rules | `(tactic| wtm_at "mem") => `(tactic| with_reducible (apply rd_K; wtm_at "mem"))
local macro_rules | `(tactic| wtm_at "mem") => `(tactic| with_reducible (apply mput_off'; assumption; wtm_at "mem"))
local macro_rules | `(tactic| wtm_at "mem") => `(tactic| with_reducible (apply mput_off; assumption; wtm_at "mem"))
local macro_rules | `(tactic| wtm_at "mem") => `(tactic| with_reducible (apply mput_new; assumption; wtm_at "mem"))
local macro_rules | `(tactic| wtm_at "mem") => `(tactic| with_reducible (exact mput_same))
local macro_rules | `(tactic| wtm_at "mem") => `(tactic| with_reducible (assumption))
local macro_rules | `(tactic| wtm_at "dec") => `(tactic| (simp; done))
local macro_rules | `(tactic| wtm_at "dec") => `(tactic| (decide))
local macro_rules | `(tactic| wtm_at "dec") => `(tactic| (simp only [isN, ofString_inj, decide_eq_true_eq, decide_eq_false_iff_not, String.reduceEq, reduceCtorEq, not_false_eq_true, decide_true, decide_false, Bool.not_true, Bool.not_false, Bool.not_eq_true', Bool.not_eq_false', Int.reduceLT, Int.reduceLE, Int.reduceEq]; done))
local macro_rules | `(tactic| wtm_at "dec") => `(tactic| with_reducible rfl)
local macro_rules | `(tactic| wtm_at "get") => `(tactic| fail)
local macro_rules | `(tactic| wtm_at "len") => `(tactic| (simp; done))
local macro_rules | `(tactic| wtm_at "ty") => `(tactic| rfl)
local macro_rules | `(tactic| wtm_at "ty") => `(tactic| (apply ty_K; wtm_at "mem"))
local macro_rules | `(tactic| wtm_at "ty") => `(tactic| (apply ty_L; wtm_at "mem"))
local macro_rules | `(tactic| wtm_at "ty") => `(tactic| assumption)
local macro_rules | `(tactic| wtm_at "ty") => `(tactic| (with_reducible rfl))
local macro_rules | `(tactic| wtm_at "om") => `(tactic| ((try dsimp only); omega))
local macro_rules | `(tactic| wtm_at "om") => `(tactic| omega)
local macro_rules | `(tactic| wtm_at "om") => `(tactic| (with_reducible decide))
local macro_rules | `(tactic| wtm_at "om") => `(tactic| assumption)
local macro_rules | `(tactic| wtm_at "one") => `(tactic| (refine i_rt ?_; assumption))
local macro_rules | `(tactic| wtm_at "one") => `(tactic| assumption)
local macro_rules | `(tactic| wtm_at "one") => `(tactic| ((with_reducible refine i_plusT (sl ?_) ?_); (focus (wtm_at "len"))))
local macro_rules | `(tactic| wtm_at "one") => `(tactic| ((with_reducible refine And.intro (sl ?_) ?_); (focus (wtm_at "len"))))
local macro_rules | `(tactic| wtm_at "one") => `(tactic| ((with_reducible refine i_mod ?_ ?_); (focus (wtm_at "om"))))
local macro_rules | `(tactic| wtm_at "one") => `(tactic| ((with_reducible refine i_divW ?_ ?_ ?_); (focus (wtm_at "om")); (focus (wtm_at "om"))))
local macro_rules | `(tactic| wtm_at "one") => `(tactic| ((with_reducible refine i_timesLL ?_ ?_); (focus (wtm_at "om"))))
local macro_rules | `(tactic| wtm_at "one") => `(tactic| ((with_reducible refine i_powL ?_ ?_); (focus (wtm_at "om"))))
local macro_rules | `(tactic| wtm_at "one") => `(tactic| ((with_reducible apply i_isi); (focus (wtm_at "ty")); (focus (decide))))
local macro_rules | `(tactic| wtm_at "one") => `(tactic| ((with_reducible refine i_dispE ?_ ?_ ?_); (focus (with_unfolding_all rfl)); (focus (wtm_at "len"))))
local macro_rules | `(tactic| wtm_at "one") => `(tactic| ((with_reducible refine i_iteF ?_ ?_); (focus (wtm_at "dec"))))
local macro_rules | `(tactic| wtm_at "one") => `(tactic| ((with_reducible refine i_iteT ?_ ?_); (focus (wtm_at "dec"))))
local macro_rules | `(tactic| wtm_at "one") => `(tactic| with_reducible (assumption))
local macro_rules | `(tactic| wtm_at "one") => `(tactic| with_reducible (apply i_slL; (focus (wtm_at "mem"))))
local macro_rules | `(tactic| wtm_at "one") => `(tactic| with_reducible (refine i_pC ?_))
local macro_rules | `(tactic| wtm_at "one") => `(tactic| with_reducible (refine i_pN ?_))
local macro_rules | `(tactic| wtm_at "one") => `(tactic| with_reducible (refine i_disp ?_))
local macro_rules | `(tactic| wtm_at "one") => `(tactic| with_reducible (refine i_strAt ?_))
local macro_rules | `(tactic| wtm_at "one") => `(tactic| with_reducible (refine i_slT ?_))
local macro_rules | `(tactic| wtm_at "one") => `(tactic| with_reducible (refine i_intAt ?_))
local macro_rules | `(tactic| wtm_at "one") => `(tactic| with_reducible (refine i_int2 ?_))
local macro_rules | `(tactic| wtm_at "one") => `(tactic| with_reducible (refine i_int1 ?_))
local macro_rules | `(tactic| wtm_at "one") => `(tactic| with_reducible (refine i_tupAt ?_))
local macro_rules | `(tactic| wtm_at "one") => `(tactic| with_reducible (refine i_two ?_))
local macro_rules | `(tactic| wtm_at "one") => `(tactic| with_reducible (refine i_lc ?_))
local macro_rules | `(tactic| wtm_at "one") => `(tactic| with_reducible (refine i_for ?_))
local macro_rules | `(tactic| wtm_at "one") => `(tactic| with_reducible (refine i_gE ?_))
local macro_rules | `(tactic| wtm_at "one") => `(tactic| with_reducible (refine i_gC ?_))
local macro_rules | `(tactic| wtm_at "one") => `(tactic| with_reducible (apply i_gTup; (with_unfolding_all rfl)))
local macro_rules | `(tactic| wtm_at "one") => `(tactic| with_reducible (refine i_gN ?_))
local macro_rules | `(tactic| wtm_at "one") => `(tactic| with_reducible (refine i_par ?_))
local macro_rules | `(tactic| wtm_at "one") => `(tactic| with_reducible (refine i_asg ?_))
local macro_rules | `(tactic| wtm_at "one") => `(tactic| with_reducible (refine i_retN ?_))
local macro_rules | `(tactic| wtm_at "one") => `(tactic| with_reducible (refine i_drop ?_))
local macro_rules | `(tactic| wtm_at "one") => `(tactic| with_reducible (refine i_neqB ?_))
local macro_rules | `(tactic| wtm_at "one") => `(tactic| with_reducible (refine i_eqqB ?_))
local macro_rules | `(tactic| wtm_at "one") => `(tactic| with_reducible (refine i_neg ?_))
local macro_rules | `(tactic| wtm_at "one") => `(tactic| with_reducible (apply i_tupL; (focus (wtm_at "mem"))))
local macro_rules | `(tactic| wtm_at "one") => `(tactic| with_reducible (refine i_tupT ?_))
local macro_rules | `(tactic| wtm_at "one") => `(tactic| with_reducible (apply i_listL; (focus (wtm_at "mem"))))
local macro_rules | `(tactic| wtm_at "one") => `(tactic| with_reducible (refine i_listT ?_))
local macro_rules | `(tactic| wtm_at "one") => `(tactic| with_reducible (apply i_lenL; (focus (wtm_at "mem"))))
local macro_rules | `(tactic| wtm_at "one") => `(tactic| with_reducible (refine i_lenT ?_))
local macro_rules | `(tactic| wtm_at "one") => `(tactic| with_reducible (refine i_intB ?_))
local macro_rules | `(tactic| wtm_at "one") => `(tactic| with_reducible (refine i_intI ?_))
local macro_rules | `(tactic| wtm_at "one") => `(tactic| with_reducible (refine i_abs ?_))
local macro_rules | `(tactic| wtm_at "one") => `(tactic| with_reducible (refine i_min2 ?_))
local macro_rules | `(tactic| wtm_at "one") => `(tactic| with_reducible (refine i_max2 ?_))
local macro_rules | `(tactic| wtm_at "one") => `(tactic| with_reducible (refine i_notN ?_))
local macro_rules | `(tactic| wtm_at "one") => `(tactic| with_reducible (refine i_isN ?_))
local macro_rules | `(tactic| wtm_at "one") => `(tactic| with_reducible (refine i_ref ?_))
local macro_rules | `(tactic| wtm_at "one") => `(tactic| with_reducible (refine i_put ?_))
local macro_rules | `(tactic| wtm_at "one") => `(tactic| with_reducible (refine i_neqI ?_))
local macro_rules | `(tactic| wtm_at "one") => `(tactic| with_reducible (refine i_neqS ?_))
local macro_rules | `(tactic| wtm_at "one") => `(tactic| with_reducible (refine i_plusI ?_))
local macro_rules | `(tactic| wtm_at "one") => `(tactic| with_reducible (refine i_I0 ?_))
local macro_rules | `(tactic| wtm_at "one") => `(tactic| with_reducible (apply i_subK; (focus (wtm_at "mem")); (focus (wtm_at "get"))))
local macro_rules | `(tactic| wtm_at "one") => `(tactic| with_reducible (apply i_subT; (with_unfolding_all rfl)))
local macro_rules | `(tactic| wtm_at "one") => `(tactic| with_reducible (refine i_sub2 ?_))
local macro_rules | `(tactic| wtm_at "one") => `(tactic| with_reducible (refine i_sub1 ?_))
local macro_rules | `(tactic| wtm_at "one") => `(tactic| with_reducible (refine i_sub0 ?_))
local macro_rules | `(tactic| wtm_at "one") => `(tactic| with_reducible (refine i_eqqI ?_))
local macro_rules | `(tactic| wtm_at "one") => `(tactic| with_reducible (refine i_eqqS ?_))
local macro_rules | `(tactic| wtm_at "one") => `(tactic| with_reducible (refine i_set ?_))
local macro_rules | `(tactic| wtm_at "one") => `(tactic| with_reducible (refine i_ret ?_))
local macro_rules | `(tactic| wtm_at "one") => `(tactic| with_reducible (refine i_if ?_))
local macro_rules | `(tactic| wtm_at "one") => `(tactic| with_reducible (refine i_next ?_))
local macro_rules | `(tactic| wtm_at "one") => `(tactic| with_reducible (refine i_seq ?_))
local macro_rules | `(tactic| wtm_at "one") => `(tactic| with_reducible (apply i_var; (with_unfolding_all rfl)))
local macro_rules | `(tactic| wtm_at "one") => `(tactic| with_reducible (refine i_bl ?_))
local macro_rules | `(tactic| wtm_at "go") => `(tactic| ((try delta wBin wCons wNil wTest wCB wCall wTup wLst wC wAnd wOr wNot wAndV wOrV wNotV wIf wUn wChain iL iH iT iR1 iR2 iLS wApp wExt wPart wNoPart wSl wGet2 wJoin wAndT); repeat wtm_at "one"))
structure Dr where
  sc : Addr
  nm : Addr
  at_ : Int
  size : Int
  place : Int
  turn : Int
  talk : Int
  rest : Int
  mixed : Int
def Dr.kvs (s : Dr) : List (Key × D) := [(.inr "numbers", .ref s.sc), (.inr "at", .int s.at_), (.inr "size", .int s.size), (.inr "place", .int s.place), (.inr "turn", .int s.turn), (.inr "talk", .int s.talk), (.inr "rest", .int s.rest), (.inr "names", .ref s.nm), (.inr "mixed", .int s.mixed)]
abbrev Dr.o (s : Dr) : O := .dK s.kvs
structure DrI (K : PySem.W.Frag) (m : Mem) (a : Addr) (s : Dr) : Prop where
  e : m a = some s.o
  sc : ∃ ns, LsK K m s.sc ns ∧ ns.length ≤ 63
  at0 : 0 ≤ s.at_
  rest0 : 0 ≤ s.rest
  mix0 : 0 ≤ s.mixed
  mix1 : s.mixed < 2147483647
def Dr.nx (s s' : Dr) : Prop := s'.sc = s.sc ∧ s'.nm = s.nm ∧ s'.size = s.size ∧ s'.place = s.place ∧ s'.turn = s.turn ∧ s'.talk = s.talk
theorem Dr.nx_trans {s s' s2 : Dr} (a : s.nx s') (b : s'.nx s2) : s.nx s2 := by
  obtain ⟨a1, a2, a3, a4, a5, a6⟩ := a
  obtain ⟨b1, b2, b3, b4, b5, b6⟩ := b
  exact ⟨b1.trans a1, b2.trans a2, b3.trans a3, b4.trans a4, b5.trans a5, b6.trans a6⟩
theorem LsK.putD {K : PySem.W.Frag} {m : Mem} {a b : Addr} {o o' : O} {ns : List Int} (h : LsK K m a ns) (e : m b = some o) (w : ∀ ds, rdM m b ≠ some (.lst ds)) : LsK K (mput m b o') a ns := by
  rcases h with h | h
  · exact LsK.put (.inl h) fun z => by subst z; exact w _ h
  · exact .inr h
theorem DrI.rd {K : PySem.W.Frag} {m : Mem} {a : Addr} {s : Dr} (h : DrI K m a s) : rdM m a = some s.o := rd_of h.e trivial
theorem DrI.put {K : PySem.W.Frag} {m : Mem} {a : Addr} {s s' : Dr} (h : DrI K m a s) (e : s'.sc = s.sc) (h1 : 0 ≤ s'.at_) (h2 : 0 ≤ s'.rest) (h3 : 0 ≤ s'.mixed) (h4 : s'.mixed < 2147483647) : DrI K (mput m a s'.o) a s' := by
  obtain ⟨ns, l, z⟩ := h.sc
  refine ⟨mput_same, ⟨ns, by rw [e]; exact l.putD h.e fun ds z => (by rw [h.rd] at z; cases z), z⟩, h1, h2, h3, h4⟩
theorem DrI.new {K : PySem.W.Frag} {m : Mem} {a p : Addr} {s : Dr} {o : O} (h : DrI K m a s) (hp : m p = none) : DrI K (mput m p o) a s := by
  obtain ⟨ns, l, z⟩ := h.sc
  refine ⟨mput_new hp h.e, ⟨ns, ?_, z⟩, h.at0, h.rest0, h.mix0, h.mix1⟩
  rcases l with l | l
  · refine .inl ?_
    unfold rdM at l ⊢
    rw [mput_ne]; exact l
    rintro rfl; rw [hp] at l; cases l
  · exact .inr l
def spTaken (K : PySem.W.Frag) : SpM := fun ds m Q _ => ∃ (a : Addr) (k : Int) (s : Dr), ds = [.ref a, .int k] ∧ DrI K m a s ∧ 0 < k ∧ k ≤ 10 ^ 13 ∧
  ∀ r s', 0 ≤ r → r < k → s.nx s' → DrI K (mput m a s'.o) a s' → Q (.int r) (mput m a s'.o)
abbrev s__law_taken : Stmt := topS 37
theorem sc__law_taken : FnScope ["_law_s", "_law_most", "_law_found", "_law_number_here"] ["_law_s", "_law_most"] (defScope s__law_taken) := ⟨rfl, rfl, rfl, by decide +kernel, rfl, by decide +kernel, by decide +kernel⟩
theorem small_log {k : Int} (h0 : 0 < k) (h1 : k ≤ 10 ^ 13) : k.natAbs.log2 < 9000 := by
  have h2 : k.natAbs < 2 ^ 50 := by omega
  have := PySem.Flt.log2_lt_of (k := 50) (by decide) h2
  omega
theorem i_subS' {K : PySem.W.Frag} {m : Mem} {Q : KM} {a : Addr} {i n : Int} {ns : List Int} (h : LsK K m a ns) (e : atI ns i = some n) (q : Q (.int n) m) : wSubS K (.ref a) (.int i) m Q := ⟨ns, n, h, e, q⟩
theorem i_lenS' {K : PySem.W.Frag} {m : Mem} {Q : KM} {a : Addr} {ns : List Int} (h : LsK K m a ns) (q : Q (.int ns.length) m) : wLenS K [.ref a] m Q := ⟨ns, h, q⟩
theorem atI_some {α : Type} {xs : List α} {i : Int} (h0 : 0 ≤ i) (h1 : i < xs.length) : ∃ x, atI xs i = some x := by
  have e : i = ((i.toNat : Nat) : Int) := by omega
  rw [e]
  exact ⟨xs[i.toNat]'(by omega), atI_nat (by simp [show i.toNat < xs.length by omega])⟩
theorem Dr.g_numbers {s : Dr} : valD s.kvs (.inr "numbers") = some (.ref s.sc) := by
  simp [valD, Dr.kvs, ofString_inj]
theorem Dr.g_at {s : Dr} : valD s.kvs (.inr "at") = some (.int s.at_) := by
  simp [valD, Dr.kvs, ofString_inj]
theorem Dr.g_size {s : Dr} : valD s.kvs (.inr "size") = some (.int s.size) := by
  simp [valD, Dr.kvs, ofString_inj]
theorem Dr.g_place {s : Dr} : valD s.kvs (.inr "place") = some (.int s.place) := by
  simp [valD, Dr.kvs, ofString_inj]
theorem Dr.g_turn {s : Dr} : valD s.kvs (.inr "turn") = some (.int s.turn) := by
  simp [valD, Dr.kvs, ofString_inj]
theorem Dr.g_talk {s : Dr} : valD s.kvs (.inr "talk") = some (.int s.talk) := by
  simp [valD, Dr.kvs, ofString_inj]
theorem Dr.g_rest {s : Dr} : valD s.kvs (.inr "rest") = some (.int s.rest) := by
  simp [valD, Dr.kvs, ofString_inj]
theorem Dr.g_names {s : Dr} : valD s.kvs (.inr "names") = some (.ref s.nm) := by
  simp [valD, Dr.kvs, ofString_inj]
theorem Dr.g_mixed {s : Dr} : valD s.kvs (.inr "mixed") = some (.int s.mixed) := by
  simp [valD, Dr.kvs, ofString_inj]
local macro_rules | `(tactic| wtm_at "get") => `(tactic| with_reducible (exact Dr.g_talk))
local macro_rules | `(tactic| wtm_at "get") => `(tactic| with_reducible (exact Dr.g_turn))
local macro_rules | `(tactic| wtm_at "get") => `(tactic| with_reducible (exact Dr.g_place))
local macro_rules | `(tactic| wtm_at "get") => `(tactic| with_reducible (exact Dr.g_size))
local macro_rules | `(tactic| wtm_at "get") => `(tactic| with_reducible (exact Dr.g_mixed))
local macro_rules | `(tactic| wtm_at "get") => `(tactic| with_reducible (exact Dr.g_names))
local macro_rules | `(tactic| wtm_at "get") => `(tactic| with_reducible (exact Dr.g_numbers))
local macro_rules | `(tactic| wtm_at "get") => `(tactic| with_reducible (exact Dr.g_at))
local macro_rules | `(tactic| wtm_at "get") => `(tactic| with_reducible (exact Dr.g_rest))
theorem Dr.p_rest {s : Dr} {v : Int} : putD s.kvs (.inr "rest") (.int v) = Dr.kvs { s with rest := v } := by
  simp [putD, Dr.kvs, ofString_inj]
theorem Dr.p_at {s : Dr} {v : Int} : putD s.kvs (.inr "at") (.int v) = Dr.kvs { s with at_ := v } := by
  simp [putD, Dr.kvs, ofString_inj]
theorem Dr.p_mixed {s : Dr} {v : Int} : putD s.kvs (.inr "mixed") (.int v) = Dr.kvs { s with mixed := v } := by
  simp [putD, Dr.kvs, ofString_inj]
theorem Dr.p_names {s : Dr} {v : Addr} : putD s.kvs (.inr "names") (.ref v) = Dr.kvs { s with nm := v } := by
  simp [putD, Dr.kvs, ofString_inj]
theorem Dr.p_size {s : Dr} {v : Int} : putD s.kvs (.inr "size") (.int v) = Dr.kvs { s with size := v } := by
  simp [putD, Dr.kvs, ofString_inj]
theorem Dr.p_place {s : Dr} {v : Int} : putD s.kvs (.inr "place") (.int v) = Dr.kvs { s with place := v } := by
  simp [putD, Dr.kvs, ofString_inj]
theorem Dr.p_turn {s : Dr} {v : Int} : putD s.kvs (.inr "turn") (.int v) = Dr.kvs { s with turn := v } := by
  simp [putD, Dr.kvs, ofString_inj]
theorem Dr.p_talk {s : Dr} {v : Int} : putD s.kvs (.inr "talk") (.int v) = Dr.kvs { s with talk := v } := by
  simp [putD, Dr.kvs, ofString_inj]
theorem Dr.len {s : Dr} : s.kvs.length < sizeLine := by show 9 < sizeLine; decide
theorem ok_law_taken (Z : Bl mg) {k : Nat} {f__law_taken : Addr} {fd__law_taken : FuncData} (F : Fun K "_law_taken" "_law_taken" s__law_taken f__law_taken fd__law_taken) : FnM P w K mg base CX0 (k + 1) f__law_taken fd__law_taken ["_law_s", "_law_most"] (spTaken K) := by
  refine fn_m F sc__law_taken (fun ds m Q E h => ?_) (fun cdv A outer s H ds m Q E E' hr h => ?_)
  · obtain ⟨a, k, s, rfl, _⟩ := h; rfl
  have nd := sc__law_taken.nd
  obtain ⟨a, n, s, rfl, I, h0, h1, q⟩ := h
  refine ⟨_, (mss_cons (ms_if (mt_cmp mo_gt (mx_ix (mi_sub hr) (mv 0) mx_str) mx_int (nomark _)) (mss_cons (ms_set (i := 2) nd rfl (.inl rfl) (mx_op mo_mod (mx_ix (mi_sub hr) (mv 0) mx_str) (mv 1)))
    (mss_cons (ms_dput (hu1 hr) (mv 0) mx_str (mx_op mo_div (mx_ix (mi_sub hr) (mv 0) mx_str) (mv 1)))
    (mss_one (ms_ret (mv 2))))) mss_nil)
    (mss_cons (ms_dput (hu1 hr) (mv 0) mx_str (mx_op mo_plus (mx_ix (mi_sub hr) (mv 0) mx_str) mx_int))
    (mss_cons (ms_if (mt_cmp mo_le (mx_ix (mi_sub hr) (mv 0) mx_str) (mx_callB mc_lenS Z.b_len (ma_cons (mx_ix (mi_sub hr) (mv 0) mx_str) ma_nil)) (nomark _)) (mss_cons (ms_set (i := 3) nd rfl (.inl rfl) (mx_ix mi_subS (mx_ix (mi_sub hr) (mv 0) mx_str) (mx_op mo_sub (mx_ix (mi_sub hr) (mv 0) mx_str) mx_int)))
    (mss_cons (ms_dput (hu1 hr) (mv 0) mx_str (mx_op mo_times (mx_op mo_div (mv 3) (mv 1)) (mx_callTy mc_int1 Z.b_int (ma_cons (mx_cmp mo_ge (mv 3) (mx_op mo_pow mx_int mx_int) (nomark _)) ma_nil))))
    (mss_one (ms_ret (mx_op mo_mod (mv 3) (mv 1)))))) mss_nil)
    (mss_cons (ms_dput (hu1 hr) (mv 0) mx_str (mx_op mo_mod (mx_op mo_times (mx_ix (mi_sub hr) (mv 0) mx_str) mx_int) mx_int))
    (mss_one (ms_ret (mx_if (mt_cmp mo_gt (mv 1) (mx_op mo_pow mx_int mx_int) (nomark _)) (mx_op mo_mod (mx_op mo_pow (mx_op mo_div (mx_ix (mi_sub hr) (mv 0) mx_str) mx_int) mx_int) (mv 1)) (mx_op mo_mod (mx_op mo_div (mx_ix (mi_sub hr) (mv 0) mx_str) mx_int) (mv 1))))))))), ?_⟩
  have e0 : m a = some (.dK s.kvs) := I.e
  have re : rdM m a = some (.dK s.kvs) := I.rd
  obtain ⟨ns, hL, hz⟩ := I.sc
  have fin : ∀ (r at' rest' mixed' : Int), 0 ≤ r → r < n → 0 ≤ at' → 0 ≤ rest' → 0 ≤ mixed' → mixed' < 2147483647 → Q (.int r) (mput m a (.dK (Dr.kvs { s with at_ := at', rest := rest', mixed := mixed' }))) := fun r at' rest' mixed' h2 h3 h4 h5 h6 h7 =>
    q r _ h2 h3 ⟨rfl, rfl, rfl, rfl, rfl, rfl⟩ (I.put rfl h4 h5 h6 h7)
  have hat := I.at0
  have hrest := I.rest0
  have hm0 := I.mix0
  have hm1 := I.mix1
  have hlog := small_log h0 h1
  wtm_at "go"
  refine i_ite (fun c => ?_) (fun c => ?_)
  · have c' : 0 < s.rest := of_decide_eq_true c
    wtm_at "go"
    refine i_putK e0 Dr.len ?_
    rw [Dr.p_rest]
    wtm_at "go"
    refine RtM.mk (fin _ _ _ _ (Int.emod_nonneg _ (by wtm_at "om")) (Int.emod_lt_of_pos _ h0) hat (Int.ediv_nonneg hrest (by wtm_at "om")) hm0 hm1)
  · wtm_at "go"
    refine i_putK e0 Dr.len ?_
    rw [Dr.p_at]
    wtm_at "go"
    have hL1 : LsK K (mput m a (.dK (Dr.kvs { s with at_ := s.at_ + 1 }))) s.sc ns := hL.putD e0 fun ds z => by rw [re] at z; cases z
    refine i_lenS' hL1 ?_
    wtm_at "go"
    refine i_ite (fun c => ?_) (fun c => ?_)
    · have c' : s.at_ + 1 ≤ ns.length := of_decide_eq_true c
      wtm_at "go"
      obtain ⟨v, hv⟩ := atI_some (xs := ns) (i := s.at_ + 1 - 1) (by wtm_at "om") (by wtm_at "om")
      refine i_subS' hL1 hv ?_
      wtm_at "go"
      refine i_putK mput_same Dr.len ?_
      rw [Dr.p_rest, mput_mput]
      wtm_at "go"
      refine RtM.mk (fin _ _ _ _ (Int.emod_nonneg _ (by wtm_at "om")) (Int.emod_lt_of_pos _ h0) (by wtm_at "om") ?_ hm0 hm1)
      by_cases cv : 10 ^ (18 : Int).toNat ≤ v
      · rw [decide_eq_true cv]
        have : 0 ≤ v := Int.le_trans (by decide) cv
        have := Int.ediv_nonneg this (show 0 ≤ n by omega)
        simpa using this
      · rw [decide_eq_false cv]; simp
    · wtm_at "go"
      refine i_putK mput_same Dr.len ?_
      rw [Dr.p_mixed, mput_mput]
      wtm_at "go"
      have g0 : 0 ≤ s.mixed * 48271 % 2147483647 := Int.emod_nonneg _ (by decide)
      have g1 : s.mixed * 48271 % 2147483647 < 2147483647 := Int.emod_lt_of_pos _ (by decide)
      refine i_ite (fun c => ?_) (fun c => ?_)
      · wtm_at "go"
        refine RtM.mk (fin _ _ _ _ (Int.emod_nonneg _ (by wtm_at "om")) (Int.emod_lt_of_pos _ h0) (by wtm_at "om") hrest g0 g1)
      · wtm_at "go"
        refine RtM.mk (fin _ _ _ _ (Int.emod_nonneg _ (by wtm_at "om")) (Int.emod_lt_of_pos _ h0) (by wtm_at "om") hrest g0 g1)
theorem spTaken.mk {K : PySem.W.Frag} {m : Mem} {Q : KM} {Em : XM} {a : Addr} {k : Int} {s : Dr} (I : DrI K m a s) (h0 : 0 < k) (h1 : k ≤ 10 ^ 13)
    (q : ∀ r s', 0 ≤ r → r < k → s.nx s' → DrI K (mput m a s'.o) a s' → Q (.int r) (mput m a s'.o)) : spTaken K [.ref a, .int k] m Q Em := ⟨a, k, s, rfl, I, h0, h1, q⟩
def spNumber (K : PySem.W.Frag) : SpM := fun ds m Q _ => ∃ (a : Addr) (s : Dr), ds = [.ref a] ∧ DrI K m a s ∧
  ∀ (v : Int) s', v.natAbs < 10 ^ 12 → s.nx s' → DrI K (mput m a s'.o) a s' → Q (.int v) (mput m a s'.o)
abbrev s__law_number : Stmt := topS 39
theorem sc__law_number : FnScope ["_law_s"] ["_law_s"] (defScope s__law_number) := ⟨rfl, rfl, rfl, by decide +kernel, rfl, by decide +kernel, by decide +kernel⟩
theorem ok_law_number {k : Nat} {f__law_taken : Addr} {fd__law_taken : FuncData} (D__law_taken : Df K mg "_law_taken" f__law_taken fd__law_taken ["_law_s", "_law_most"]) (G__law_taken : FnM P w K mg base CX0 (k) f__law_taken fd__law_taken ["_law_s", "_law_most"] (spTaken K)) {f__law_number : Addr} {fd__law_number : FuncData} (F : Fun K "_law_number" "_law_number" s__law_number f__law_number fd__law_number) : FnM P w K mg base CX0 (k + 1) f__law_number fd__law_number ["_law_s"] (spNumber K) := by
  refine fn_m F sc__law_number (fun ds m Q E h => ?_) (fun cdv A outer s H ds m Q E E' hr h => ?_)
  · obtain ⟨a, s, rfl, _⟩ := h; rfl
  have nd := sc__law_number.nd
  obtain ⟨a, s, rfl, I, q⟩ := h
  refine ⟨_, (mss_cons (ms_if (mt_cmp (mo_eqq hr) (mx_call (Em := noX) G__law_taken hr D__law_taken.m D__law_taken.k D__law_taken.b pass0M (ma_cons (mv 0) (ma_cons mx_int ma_nil))) mx_int (nomark _)) (mss_one (ms_ret (mx_op mo_plus (mx_op mo_sub (mx_call (Em := noX) G__law_taken hr D__law_taken.m D__law_taken.k D__law_taken.b pass0M (ma_cons (mv 0) (ma_cons (mx_op mo_sub (mx_op mo_times mx_int (mx_op mo_pow mx_int mx_int)) mx_int) ma_nil))) (mx_op mo_pow mx_int mx_int)) mx_int))) mss_nil)
    (mss_one (ms_ret (mx_op mo_sub (mx_call (Em := noX) G__law_taken hr D__law_taken.m D__law_taken.k D__law_taken.b pass0M (ma_cons (mv 0) (ma_cons mx_int ma_nil))) mx_int)))), ?_⟩
  wtm_at "go"
  refine spTaken.mk I (by decide) (by decide) fun r s1 h0 h1 n1 I1 => ?_
  wtm_at "go"
  refine i_ite (fun c => ?_) (fun c => ?_)
  · wtm_at "go"
    refine spTaken.mk I1 (by decide) (by decide) fun r s2 h0 h1 n2 I2 => ?_
    rw [mput_mput] at I2 ⊢
    wtm_at "go"
    have e12 : (10 : Int) ^ Int.toNat 12 = 1000000000000 := rfl
    exact RtM.mk (q _ _ (by omega) (Dr.nx_trans n1 n2) I2)
  · wtm_at "go"
    refine spTaken.mk I1 (by decide) (by decide) fun r s2 h0 h1 n2 I2 => ?_
    rw [mput_mput] at I2 ⊢
    wtm_at "go"
    exact RtM.mk (q _ _ (by omega) (Dr.nx_trans n1 n2) I2)
theorem Sub.put {m m' : Mem} {a : Addr} {o : O} (h : Sub m m') : Sub (mput m a o) (mput m' a o) := fun b u e => by
  by_cases c : b = a
  · subst c; rw [mput_same] at e ⊢; exact e
  · rw [mput_ne c] at e ⊢; exact h b u e
theorem Sub.new {m m' : Mem} {p : Addr} {o : O} (h : Sub m m') (hp : m' p = none) : Sub m (mput m' p o) := fun b u e => mput_new hp (h b u e)
theorem atI_mem {α : Type} {xs : List α} {i : Int} {x : α} (h : atI xs i = some x) : x ∈ xs := by
  unfold atI at h
  cases q : ixN xs.length i with
  | none => rw [q] at h; cases h
  | some j =>
    rw [q] at h
    exact List.mem_of_getElem? h
theorem RtM.sub {Q : KM} {d : D} {m m' : Mem} (s : Sub m m') (h : Q d m) : RtM Q d m' := ⟨m, s, h⟩
def DrN (m : Mem) (s : Dr) (nms : List Str) : Prop := rdM m s.nm = some (.lst (nms.map D.str)) ∧ nms.length ≤ 20
theorem DrN.put {K : PySem.W.Frag} {m : Mem} {a : Addr} {s s' : Dr} {nms : List Str} (h : DrN m s nms) (I : DrI K m a s) (n : s.nx s') : DrN (mput m a s'.o) s' nms := by
  refine ⟨?_, h.2⟩
  rw [n.2.1]
  have h1 := h.1
  have ne : s.nm ≠ a := by
    intro e
    rw [e, I.rd] at h1; cases h1
  unfold rdM at h1 ⊢
  rw [mput_ne ne]; exact h1
theorem rdM_new {m : Mem} {p a : Addr} {o u : O} (hp : m p = none) (h : rdM m a = some u) : rdM (mput m p o) a = some u := by
  unfold rdM at h ⊢
  rw [mput_ne]; exact h
  rintro rfl; rw [hp] at h; cases h
theorem rdM_off {m : Mem} {p a : Addr} {o u : O} (hp : a ≠ p) (h : rdM m a = some u) : rdM (mput m p o) a = some u := by
  unfold rdM at h ⊢
  rw [mput_ne hp]; exact h
theorem DrN.new {m : Mem} {p : Addr} {o : O} {s : Dr} {nms : List Str} (h : DrN m s nms) (hp : m p = none) : DrN (mput m p o) s nms := ⟨rdM_new hp h.1, h.2⟩
def Told.of (nms : List Str) : Told → Prop
  | .num i => i.natAbs < 10 ^ 12
  | .read x => x ∈ nms
  | .bin _ a b => a.of nms ∧ b.of nms
def spTold (K : PySem.W.Frag) (n : Nat) : SpM := fun ds m Q _ => ∃ (a : Addr) (s : Dr) (nms : List Str) (dp : Nat), ds = [.ref a, .int dp] ∧ dp < n ∧ DrI K m a s ∧ DrN m s nms ∧
  ∀ (t : Told) s', t.dp ≤ dp → t.of nms → s.nx s' → DrI K (mput m a s'.o) a s' → Q t.d (mput m a s'.o)
abbrev s__law_told : Stmt := topS 40
theorem sc__law_told : FnScope ["_law_s", "_law_deep", "_law_way", "_law_one"] ["_law_s", "_law_deep"] (defScope s__law_told) := ⟨rfl, rfl, rfl, by decide +kernel, rfl, by decide +kernel, by decide +kernel⟩
theorem ok_law_told {k n : Nat} (Z : Bl mg) {f__law_taken : Addr} {fd__law_taken : FuncData} (D__law_taken : Df K mg "_law_taken" f__law_taken fd__law_taken ["_law_s", "_law_most"]) (G__law_taken : FnM P w K mg base CX0 (k) f__law_taken fd__law_taken ["_law_s", "_law_most"] (spTaken K)) {f__law_number : Addr} {fd__law_number : FuncData} (D__law_number : Df K mg "_law_number" f__law_number fd__law_number ["_law_s"]) (G__law_number : FnM P w K mg base CX0 (k) f__law_number fd__law_number ["_law_s"] (spNumber K)) {f__law_told : Addr} {fd__law_told : FuncData} (D__law_told : Df K mg "_law_told" f__law_told fd__law_told ["_law_s", "_law_deep"]) (G__law_told : FnM P w K mg base CX0 (k) f__law_told fd__law_told ["_law_s", "_law_deep"] (spTold K n)) (F : Fun K "_law_told" "_law_told" s__law_told f__law_told fd__law_told) : FnM P w K mg base CX0 (k + 1) f__law_told fd__law_told ["_law_s", "_law_deep"] (spTold K (n + 1)) := by
  refine fn_m F sc__law_told (fun ds m Q E h => ?_) (fun cdv A outer s H ds m Q E E' hr h => ?_)
  · obtain ⟨a, s, nms, dp, rfl, _⟩ := h; rfl
  have nd := sc__law_told.nd
  obtain ⟨a, s, nms, dp, rfl, hd, I, hN, q⟩ := h
  refine ⟨_, (mss_cons (ms_set (i := 2) nd rfl (.inl rfl) (mx_call (Em := noX) G__law_taken hr D__law_taken.m D__law_taken.k D__law_taken.b pass0M (ma_cons (mv 0) (ma_cons mx_int ma_nil))))
    (mss_cons (ms_if (mw_pt (mw_or (mt_cmp mo_lt (mv 2) mx_int (nomark _)) (mw_or1 (mt_cmp (mo_eqq hr) (mv 1) mx_int (nomark _))))) (mss_cons (ms_if (mw_pt (mw_and (mt_cmp (mo_eqq hr) (mx_op mo_mod (mv 2) mx_int) mx_int (nomark _)) (mw_and1 (mt_cmp mo_gt (mx_callB mc_len1 Z.b_len (ma_cons (mx_ix (mi_sub hr) (mv 0) mx_str) ma_nil)) mx_int (nomark _))))) (mss_one (ms_ret (mx_tup (ma_cons mx_str (ma_cons (mx_ix (mi_sub hr) (mx_ix (mi_sub hr) (mv 0) mx_str) (mx_call (Em := noX) G__law_taken hr D__law_taken.m D__law_taken.k D__law_taken.b pass0M (ma_cons (mv 0) (ma_cons (mx_callB mc_len1 Z.b_len (ma_cons (mx_ix (mi_sub hr) (mv 0) mx_str) ma_nil)) ma_nil)))) ma_nil))))) mss_nil)
    (mss_one (ms_ret (mx_tup (ma_cons mx_str (ma_cons (mx_call (Em := noX) G__law_number hr D__law_number.m D__law_number.k D__law_number.b pass0M (ma_cons (mv 0) ma_nil)) ma_nil)))))) mss_nil)
    (mss_cons (ms_set (i := 3) nd rfl (.inl rfl) (mx_call (Em := noX) G__law_told hr D__law_told.m D__law_told.k D__law_told.b pass0M (ma_cons (mv 0) (ma_cons (mx_op mo_sub (mv 1) mx_int) ma_nil))))
    (mss_one (ms_ret (mx_tup (ma_cons (mx_ix (mi_sub hr) (mx_lst (ma_cons mx_str (ma_cons mx_str (ma_cons mx_str (ma_cons mx_str (ma_cons mx_str ma_nil)))))) (mx_op mo_sub (mv 2) mx_int)) (ma_cons (mv 3) (ma_cons (mx_call (Em := noX) G__law_told hr D__law_told.m D__law_told.k D__law_told.b pass0M (ma_cons (mv 0) (ma_cons (mx_op mo_sub (mv 1) mx_int) ma_nil))) ma_nil))))))))), ?_⟩
  wtm_at "go"
  refine spTaken.mk I (by decide) (by decide) fun way s1 h0 h1 n1 I1 => ?_
  have N1 := hN.put I n1
  have N1l := N1.1
  have e2 : ∀ s1 s' : Dr, mput (mput m a s1.o) a s'.o = mput m a s'.o := fun s1 s' => mput_mput
  have e1 : ∀ s' : Dr, mput (mput m a s1.o) a s'.o = mput m a s'.o := fun s' => mput_mput
  have I1e := I1.e
  have I1r := I1.rd
  wtm_at "go"
  refine i_ite (fun c => ?_) (fun c => ?_)
  rotate_left
  wtm_at "go"
  refine i_ite (fun c' => ?_) (fun c' => ?_)
  rotate_left
  · have c1 : ¬ way < 3 := of_decide_eq_false c
    have c2 : ¬ (dp : Int) = 0 := of_decide_eq_false c'
    have ed : (dp : Int) - 1 = ((dp - 1 : Nat) : Int) := by omega
    wtm_at "go"
    rw [ed]
    refine ⟨a, s1, nms, dp - 1, rfl, by omega, I1, N1, fun t1 s2 d1 o1 n2 I2 => ?_⟩
    rw [e1] at I2 ⊢
    have N2 := N1.put I1 n2
    rw [e1] at N2
    wtm_at "go"
    intro p hp
    obtain ⟨j, hj⟩ : ∃ j : Jn, atI [D.str (Str.ofString "plus"), .str (Str.ofString "minus"), .str (Str.ofString "times"), .str (Str.ofString "most"), .str (Str.ofString "least")] (way - 3) = some (.str j.w) := by
      have : way = 3 ∨ way = 4 ∨ way = 5 ∨ way = 6 ∨ way = 7 := by omega
      rcases this with rfl | rfl | rfl | rfl | rfl
      · exact ⟨.plus, rfl⟩
      · exact ⟨.minus, rfl⟩
      · exact ⟨.times, rfl⟩
      · exact ⟨.most, rfl⟩
      · exact ⟨.least, rfl⟩
    wtm_at "go"
    refine i_subL (rd_L mput_same) hj ?_
    wtm_at "go"
    rw [ed]
    refine ⟨a, s2, nms, dp - 1, rfl, by omega, I2.new hp, N2.new hp, fun t2 s3 d2 o2 n3 I3 => ?_⟩
    have I3' : DrI K (mput m a s3.o) a s3 := by
      have := DrI.put (s' := s3) I2 n3.1 I3.at0 I3.rest0 I3.mix0 I3.mix1
      rw [e2] at this; exact this
    wtm_at "go"
    refine RtM.sub ?_ (q (.bin j t1 t2) s3 ?_ ⟨o1, o2⟩ (Dr.nx_trans n1 (Dr.nx_trans n2 n3)) I3')
    · rw [← e2 s2 s3]; exact Sub.put (Sub.refl.new hp)
    · show max t1.dp t2.dp + 1 ≤ dp
      omega
  all_goals (
    wtm_at "go"
    refine i_ite (fun c3 => ?_) (fun c3 => ?_)
    · wtm_at "go"
      refine i_ite (fun c4 => ?_) (fun c4 => ?_)
      · have c5 : 0 < ((nms.map D.str).length : Int) := of_decide_eq_true c4
        have c6 := hN.2
        wtm_at "go"
        refine spTaken.mk I1 c5 (by rw [List.length_map]; omega) fun i s2 h2 h3 n2 I2 => ?_
        rw [e1] at I2 ⊢
        have N2 := N1.put I1 n2
        rw [e1] at N2
        obtain ⟨x, hx⟩ := atI_some (xs := nms.map D.str) h2 h3
        have hx' := hx
        obtain ⟨y, hy, rfl⟩ := List.mem_map.mp (atI_mem hx')
        have nme := n2.2.1
        wtm_at "go"
        refine i_subL (by rw [← nme]; exact N2.1) hx ?_
        wtm_at "go"
        exact RtM.mk (q (.read y) s2 (Nat.zero_le _) hy (Dr.nx_trans n1 n2) I2)
      · wtm_at "go"
        refine ⟨a, s1, rfl, I1, fun v s2 hv n2 I2 => ?_⟩
        rw [e1] at I2 ⊢
        wtm_at "go"
        exact RtM.mk (q (.num v) s2 (Nat.zero_le _) hv (Dr.nx_trans n1 n2) I2)
    · wtm_at "go"
      refine ⟨a, s1, rfl, I1, fun v s2 hv n2 I2 => ?_⟩
      rw [e1] at I2 ⊢
      wtm_at "go"
      exact RtM.mk (q (.num v) s2 (Nat.zero_le _) hv (Dr.nx_trans n1 n2) I2))
structure DrB (s : Dr) : Prop where
  z0 : 1 ≤ s.size
  z1 : s.size ≤ 8
  p0 : 0 ≤ s.place
  p1 : s.place < s.size
  t0 : 0 ≤ s.turn
  t1 : s.turn < 26
  k : s.talk = 0 ∨ s.talk = 1
theorem DrB.nx {s s' : Dr} (b : DrB s) (n : s.nx s') : DrB s' := by
  obtain ⟨_, _, h1, h2, h3, h4⟩ := n
  obtain ⟨b1, b2, b3, b4, b5, b6, b7⟩ := b
  exact ⟨by omega, by omega, by omega, by omega, by omega, by omega, by omega⟩
def spBegun (K : PySem.W.Frag) : SpM := fun ds m Q _ => ∃ (c : Addr) (ns : List Int), ds = [.ref c] ∧ LsK K m c ns ∧ ns.length ≤ 63 ∧
  ∀ a s m', m' a = some s.o → m a = none → Sub m m' → DrI K m' a s → DrB s → DrN m' s [] → s.nm ≠ a → Q (.ref a) m'
abbrev s__law_begun : Stmt := topS 36
theorem sc__law_begun : FnScope ["_law_script", "_law_mixed", "_law_cell", "_law_s"] ["_law_script"] (defScope s__law_begun) := ⟨rfl, rfl, rfl, by decide +kernel, rfl, by decide +kernel, by decide +kernel⟩
theorem LsK.sub {K : PySem.W.Frag} {m m' : Mem} {a : Addr} {ns : List Int} (h : LsK K m a ns) (s : Sub m m') : LsK K m' a ns := by
  rcases h with h | h
  · refine .inl ?_
    unfold rdM at h ⊢
    cases e : m a with
    | none => rw [e] at h; cases h
    | some o => rw [e] at h; rw [s _ _ e]; exact h
  · exact .inr h
theorem Dr.put_names {s : Dr} {x : Addr} : putD (List.take 7 s.kvs) (.inr "names") (.ref x) = List.take 8 (Dr.kvs { s with nm := x }) := by
  simp [putD, Dr.kvs, ofString_inj]
theorem Dr.put_mixed {s : Dr} {x : Int} : putD (List.take 8 s.kvs) (.inr "mixed") (.int x) = Dr.kvs { s with mixed := x } := by
  simp [putD, Dr.kvs, ofString_inj]
theorem ok_law_begun {k : Nat} (Z : Bl mg) {f__law_taken : Addr} {fd__law_taken : FuncData} (D__law_taken : Df K mg "_law_taken" f__law_taken fd__law_taken ["_law_s", "_law_most"]) (G__law_taken : FnM P w K mg base CX0 (k) f__law_taken fd__law_taken ["_law_s", "_law_most"] (spTaken K)) (F : Fun K "_law_begun" "_law_begun" s__law_begun f__law_begun fd__law_begun) : FnM P w K mg base CX0 (k + 1) f__law_begun fd__law_begun ["_law_script"] (spBegun K) := by
  refine fn_m F sc__law_begun (fun ds m Q E h => ?_) (fun cdv A outer s H ds m Q E E' hr h => ?_)
  · obtain ⟨a, s, rfl, _⟩ := h; rfl
  have nd := sc__law_begun.nd
  obtain ⟨c, ns, rfl, hL, hl, q⟩ := h
  refine ⟨_, (mss_cons (ms_set (i := 1) nd rfl (.inl rfl) mx_int)
    (mss_cons (ms_for PassesOwn.never rfl (mi_listS (mv 0)) (mg_name (i := 2) nd rfl (.inl rfl)) (mss_one (ms_set (i := 1) nd rfl (.inl rfl) (mx_op mo_mod (mx_op mo_plus (mx_op mo_plus (mx_op mo_times (mv 1) mx_int) (mx_op mo_times (mv 2) mx_int)) mx_int) mx_int))))
    (mss_cons (ms_set (i := 3) nd rfl (.inl rfl) (mx_disp (mps_cons mx_str (mv 0) (mps_cons mx_str mx_int (mps_cons mx_str mx_int (mps_cons mx_str mx_int (mps_cons mx_str mx_int (mps_cons mx_str mx_int (mps_cons mx_str mx_int mps_nil)))))))))
    (mss_cons (ms_dput (hu1 hr) (mv 3) mx_str (mx_lst ma_nil))
    (mss_cons (ms_dput (hu1 hr) (mv 3) mx_str (mx_op mo_times (mv 1) (mx_callTy mc_int1 Z.b_int (ma_cons (mx_cmp mo_gt (mx_callB mc_lenS Z.b_len (ma_cons (mv 0) ma_nil)) mx_int (nomark _)) ma_nil))))
    (mss_cons (ms_dput (hu1 hr) (mv 3) mx_str (mx_op mo_plus mx_int (mx_call (Em := noX) G__law_taken hr D__law_taken.m D__law_taken.k D__law_taken.b pass0M (ma_cons (mv 3) (ma_cons mx_int ma_nil)))))
    (mss_cons (ms_dput (hu1 hr) (mv 3) mx_str (mx_call (Em := noX) G__law_taken hr D__law_taken.m D__law_taken.k D__law_taken.b pass0M (ma_cons (mv 3) (ma_cons (mx_ix (mi_sub hr) (mv 3) mx_str) ma_nil))))
    (mss_cons (ms_dput (hu1 hr) (mv 3) mx_str (mx_call (Em := noX) G__law_taken hr D__law_taken.m D__law_taken.k D__law_taken.b pass0M (ma_cons (mv 3) (ma_cons mx_int ma_nil))))
    (mss_cons (ms_dput (hu1 hr) (mv 3) mx_str (mx_callTy mc_int1 Z.b_int (ma_cons (mx_cmp (mo_eqq hr) (mx_call (Em := noX) G__law_taken hr D__law_taken.m D__law_taken.k D__law_taken.b pass0M (ma_cons (mv 3) (ma_cons mx_int ma_nil))) mx_int (nomark _)) ma_nil)))
    (mss_one (ms_ret (mv 3)))))))))))), ?_⟩
  wtm_at "go"
  refine ⟨ns, hL, ?_⟩
  refine forC_ind (fun r ρ m' => m' = m ∧ ∃ (x : Int) (e : Option D), 0 ≤ x ∧ x < 2147483647 ∧ ρ = [some (.ref c), some (.int x), e, none] ∧ ∀ d ∈ r, ∃ i, d = .int i) ⟨rfl, 0, none, by decide, by decide, rfl, fun d hd => ?_⟩ ?_ ?_
  · obtain ⟨i, _, rfl⟩ := List.mem_map.mp hd; exact ⟨i, rfl⟩
  · rintro ρ m' ⟨rfl, x, e, x0, x1, rfl, -⟩
    refine ⟨hL, ?_⟩
    wtm_at "go"
    rintro a ha
    have eD : mergeD [] (List.map keyP [(.str (Str.ofString "numbers"), .ref c), (.str (Str.ofString "at"), .int 0), (.str (Str.ofString "size"), .int 1), (.str (Str.ofString "place"), .int 0), (.str (Str.ofString "turn"), .int 0), (.str (Str.ofString "talk"), .int 0), (.str (Str.ofString "rest"), .int 0)]) = List.take 7 (Dr.kvs { sc := c, nm := 0, at_ := 0, size := 1, place := 0, turn := 0, talk := 0, rest := 0, mixed := 0 }) := by
      simp [mergeD, keyP, putD, Dr.kvs, ofString_inj]
    rw [eD]
    wtm_at "go"
    intro p hp
    wtm_at "go"
    refine i_putK (mput_new hp mput_same) (by show 7 < sizeLine; decide) ?_
    rw [Dr.put_names]
    wtm_at "go"
    have ne : p ≠ a := by rintro rfl; rw [mput_same] at hp; cases hp
    have hL2 : ∀ o u o2, LsK K (mput (mput (mput m' a o) p u) a o2) c ns := fun o u o2 => by
      have h3 : Sub m' (mput (mput (mput m' a o) p u) a o2) := by
        intro b v e
        have n1 : b ≠ a := by rintro rfl; rw [ha] at e; cases e
        have n2 : b ≠ p := by
          rintro rfl
          rw [mput_ne ne] at hp; rw [hp] at e; cases e
        rw [mput_ne n1, mput_ne n2, mput_ne n1]; exact e
      exact hL.sub h3
    refine i_lenS' (hL2 _ _ _) ?_
    wtm_at "go"
    refine i_putK mput_same (by show 8 < sizeLine; decide) ?_
    rw [Dr.put_mixed, mput_mput]
    generalize hs0 : ({ sc := c, nm := p, at_ := 0, size := 1, place := 0, turn := 0, talk := 0, rest := 0, mixed := x * (if decide (2 < (ns.length : Int)) = true then 1 else 0) } : Dr) = s0
    generalize hM : mput (mput (mput m' a _) p (O.lst [])) a (.dK s0.kvs) = M
    have e0 : M a = some s0.o := by rw [← hM]; exact mput_same
    have I0 : DrI K M a s0 := by
      refine ⟨e0, ⟨ns, by subst hs0; rw [← hM]; exact hL2 _ _ _, hl⟩, by subst hs0; exact Int.le_refl 0, by subst hs0; exact Int.le_refl 0, ?_, ?_⟩
      · subst hs0; show 0 ≤ x * _; split <;> omega
      · subst hs0; show x * _ < _; split <;> omega
    have N0 : DrN M s0 [] := by
      refine ⟨?_, Nat.zero_le _⟩
      have : M p = some (.lst []) := by rw [← hM, mput_ne ne, mput_same]
      subst hs0
      exact rd_L this
    have S0 : Sub m' M := by
      intro b v e
      have n1 : b ≠ a := by rintro rfl; rw [ha] at e; cases e
      have n2 : b ≠ p := by
        rintro rfl
        rw [mput_ne ne] at hp; rw [hp] at e; cases e
      rw [← hM, mput_ne n1, mput_ne n2, mput_ne n1]; exact e
    have k0 : s0.nm ≠ a := by subst hs0; exact ne
    have e1 : ∀ s' s2 : Dr, mput (mput M a s'.o) a s2.o = mput M a s2.o := fun _ _ => mput_mput
    clear hM hs0 eD hL2
    have I0e := I0.e
    have I0r := I0.rd
    wtm_at "go"
    refine spTaken.mk I0 (by decide) (by decide) fun v1 s1 h1 g1 n1 I1 => ?_
    simp only [e1] at I1 ⊢
    have I1e := I1.e
    have I1r := I1.rd
    wtm_at "go"
    refine i_putK I1.e Dr.len ?_
    rw [Dr.p_size]
    have J1 := I1.put (s' := { s1 with size := 1 + v1 }) rfl I1.at0 I1.rest0 I1.mix0 I1.mix1
    have E1 := e1 s1 { s1 with size := 1 + v1 }
    rw [E1] at J1
    rw [show mput (mput M a s1.o) a (.dK (Dr.kvs { s1 with size := 1 + v1 })) = _ from E1]
    have J1e := J1.e
    have J1r := J1.rd
    wtm_at "go"
    refine spTaken.mk J1 (show 0 < 1 + v1 by omega) (show 1 + v1 ≤ _ by omega) fun v2 s2 h2 g2 n2 I2 => ?_
    simp only [e1] at I2 ⊢
    have I2e := I2.e
    have I2r := I2.rd
    wtm_at "go"
    refine i_putK I2.e Dr.len ?_
    rw [Dr.p_place]
    have J2 := I2.put (s' := { s2 with place := v2 }) rfl I2.at0 I2.rest0 I2.mix0 I2.mix1
    have E2 := e1 s2 { s2 with place := v2 }
    rw [E2] at J2
    rw [show mput (mput M a s2.o) a (.dK (Dr.kvs { s2 with place := v2 })) = _ from E2]
    have J2e := J2.e
    have J2r := J2.rd
    wtm_at "go"
    refine spTaken.mk J2 (by decide) (by decide) fun v3 s3 h3 g3 n3 I3 => ?_
    simp only [e1] at I3 ⊢
    have I3e := I3.e
    have I3r := I3.rd
    wtm_at "go"
    refine i_putK I3.e Dr.len ?_
    rw [Dr.p_turn]
    have J3 := I3.put (s' := { s3 with turn := v3 }) rfl I3.at0 I3.rest0 I3.mix0 I3.mix1
    have E3 := e1 s3 { s3 with turn := v3 }
    rw [E3] at J3
    rw [show mput (mput M a s3.o) a (.dK (Dr.kvs { s3 with turn := v3 })) = _ from E3]
    have J3e := J3.e
    have J3r := J3.rd
    wtm_at "go"
    refine spTaken.mk J3 (by decide) (by decide) fun v4 s4 h4 g4 n4 I4 => ?_
    simp only [e1] at I4 ⊢
    have I4e := I4.e
    have I4r := I4.rd
    wtm_at "go"
    refine i_putK I4.e Dr.len ?_
    rw [Dr.p_talk]
    have J4 := I4.put (s' := { s4 with talk := (if decide (v4 = 8) = true then 1 else 0) }) rfl I4.at0 I4.rest0 I4.mix0 I4.mix1
    have E4 := e1 s4 { s4 with talk := (if decide (v4 = 8) = true then 1 else 0) }
    rw [E4] at J4
    rw [show mput (mput M a s4.o) a (.dK (Dr.kvs { s4 with talk := (if decide (v4 = 8) = true then 1 else 0) })) = _ from E4]
    have J4e := J4.e
    have J4r := J4.rd
    wtm_at "go"
    dsimp only at g2
    obtain ⟨a1, b1, c1, d1, t1, l1⟩ := n1
    obtain ⟨a2, b2, c2, d2, t2, l2⟩ := n2
    obtain ⟨a3, b3, c3, d3, t3, l3⟩ := n3
    obtain ⟨a4, b4, c4, d4, t4, l4⟩ := n4
    dsimp only at a1 b1 c1 d1 t1 l1 a2 b2 c2 d2 t2 l2 a3 b3 c3 d3 t3 l3 a4 b4 c4 d4 t4 l4
    have nmE : s4.nm = s0.nm := by rw [b4, b3, b2, b1]
    refine RtM.mk (q a _ _ J4e ha (fun b o e => ?_) J4 ⟨?_, ?_, ?_, ?_, ?_, ?_, ?_⟩ ⟨?_, Nat.zero_le _⟩ ?_)
    · rw [mput_ne]
      · exact S0 b o e
      · rintro rfl; rw [ha] at e; cases e
    · show 1 ≤ s4.size; omega
    · show s4.size ≤ 8; omega
    · show 0 ≤ s4.place; omega
    · show s4.place < s4.size; omega
    · show 0 ≤ s4.turn; omega
    · show s4.turn < 26; omega
    · show (if decide (v4 = 8) = true then (1 : Int) else 0) = 0 ∨ (if decide (v4 = 8) = true then (1 : Int) else 0) = 1
      split
      · exact .inr rfl
      · exact .inl rfl
    · show rdM _ s4.nm = _
      rw [nmE]
      exact rdM_off k0 N0.1
    · show s4.nm ≠ a
      rw [nmE]; exact k0
  · rintro d r ρ m' L hK ⟨rfl, x, e, x0, x1, rfl, hd⟩
    obtain ⟨i, rfl⟩ := hd _ (.head _)
    refine ⟨hL, ?_⟩
    wtm_at "go"
    exact hK _ _ ⟨rfl, _, _, Int.emod_nonneg _ (by decide), Int.emod_lt_of_pos _ (by decide), rfl, fun d h => hd d (.tail _ h)⟩
def talkWords : List Str := ["none", "give", "both", "turned", "later", "often", "if", "num", "read", "plus", "below", "all"]
def sgnOf (i : Int) : Str := ⟨#[(97 + i).toNat]⟩
def wordOf (s : Dr) (k : Int) : Str := if s.talk = 1 ∧ k < 12 then (talkWords[k.toNat]?).getD "" else Txt.mul "q" s.place ++ sgnOf ((k + s.turn) % 26) ++ Txt.mul "q" (s.size - s.place - 1)
def spWord (K : PySem.W.Frag) : SpM := fun ds m Q _ => ∃ (a : Addr) (s : Dr) (k : Int), ds = [.ref a, .int k] ∧ rdM m a = some s.o ∧ DrB s ∧ 0 ≤ k ∧ Q (.str (wordOf s k)) m
theorem len_q {n : Int} (h : 0 ≤ n) : (Txt.mul "q" n).length = n.toNat := by
  have := PyProof.Rows.len_mul "q" n
  rw [decide_eq_false (by omega)] at this
  have e : (Str.ofString "q").length = 1 := by decide +kernel
  rw [e] at this
  simp at this
  omega
theorem abc_at : ∀ i : Nat, i < 26 → atI (Str.ofString "abcdefghijklmnopqrstuvwxyz").cps.toList (i : Int) = some (97 + i) := by
  decide +kernel
abbrev s__law_word : Stmt := topS 38
theorem sc__law_word : FnScope ["_law_s", "_law_k", "_law_words", "_law_sign"] ["_law_s", "_law_k"] (defScope s__law_word) := ⟨rfl, rfl, rfl, by decide +kernel, rfl, by decide +kernel, by decide +kernel⟩
theorem ok_law_word {k : Nat} (Z : Bl mg) (F : Fun K "_law_word" "_law_word" s__law_word f__law_word fd__law_word) : FnM P w K mg base CX0 (k + 1) f__law_word fd__law_word ["_law_s", "_law_k"] (spWord K) := by
  refine fn_m F sc__law_word (fun ds m Q E h => ?_) (fun cdv A outer s H ds m Q E E' hr h => ?_)
  · obtain ⟨a, s, n, rfl, _⟩ := h; rfl
  have nd := sc__law_word.nd
  obtain ⟨a, s, n, rfl, hR, B, h0, q⟩ := h
  refine ⟨_, (mss_cons (ms_if (mw_pt (mw_and (mt_cmp (mo_eqq hr) (mx_ix (mi_sub hr) (mv 0) mx_str) mx_int (nomark _)) (mw_and1 (mt_cmp mo_lt (mv 1) mx_int (nomark _))))) (mss_cons (ms_set (i := 2) nd rfl (.inl rfl) (mx_lst (ma_cons mx_str (ma_cons mx_str (ma_cons mx_str (ma_cons mx_str (ma_cons mx_str (ma_cons mx_str (ma_cons mx_str (ma_cons mx_str (ma_cons mx_str (ma_cons mx_str (ma_cons mx_str (ma_cons mx_str ma_nil))))))))))))))
    (mss_one (ms_ret (mx_ix (mi_sub hr) (mv 2) (mv 1))))) mss_nil)
    (mss_cons (ms_set (i := 3) nd rfl (.inl rfl) (mx_ix (mi_sub hr) mx_str (mx_op mo_mod (mx_op mo_plus (mv 1) (mx_ix (mi_sub hr) (mv 0) mx_str)) mx_int)))
    (mss_one (ms_ret (mx_op mo_plus (mx_op mo_plus (mx_op mo_times mx_str (mx_ix (mi_sub hr) (mv 0) mx_str)) (mv 3)) (mx_op mo_times mx_str (mx_op mo_sub (mx_op mo_sub (mx_ix (mi_sub hr) (mv 0) mx_str) (mx_ix (mi_sub hr) (mv 0) mx_str)) mx_int))))))), ?_⟩
  have tail : s.talk ≠ 1 ∨ ¬ n < 12 → Q (.str (Txt.mul "q" s.place ++ sgnOf ((n + s.turn) % 26) ++ Txt.mul "q" (s.size - s.place - 1))) m := fun h => by
    have e : wordOf s n = _ := if_neg (fun z => by rcases h with h | h; exact h z.1; exact h z.2)
    rw [e] at q; exact q
  have hz := B.z1
  have hp0 := B.p0
  have hp1 := B.p1
  have ht0 := B.t0
  have ht1 := B.t1
  have lq : (Str.ofString "q").length = 1 := by decide +kernel
  have mq : ∀ j : Int, 0 ≤ j → j ≤ 8 → MulOk (Str.ofString "q") j := fun j j0 j1 => by
    refine ⟨?_, fun _ h _ => ?_, fun _ _ => ?_⟩
    · simp; omega
    · rw [lq] at *
      have : j = 2 ∨ j = 3 ∨ j = 4 ∨ j = 5 ∨ j = 6 ∨ j = 7 ∨ j = 8 ∨ j ≤ 1 := by omega
      rcases this with rfl | rfl | rfl | rfl | rfl | rfl | rfl | h2 <;> first | decide | (simp at h; omega)
    · rw [lq]
      have : j.toNat < 9 := by omega
      refine decide_eq_false (Nat.not_lt.mpr (sl ?_))
      omega
  have hc : atI (Str.ofString "abcdefghijklmnopqrstuvwxyz").cps.toList ((n + s.turn) % 26) = some (97 + (n + s.turn) % 26).toNat := by
    have h1 : 0 ≤ (n + s.turn) % 26 := Int.emod_nonneg _ (by decide)
    have h2 : (n + s.turn) % 26 < 26 := Int.emod_lt_of_pos _ (by decide)
    have := abc_at ((n + s.turn) % 26).toNat (by omega)
    rw [show (((n + s.turn) % 26).toNat : Int) = (n + s.turn) % 26 by omega] at this
    rw [this]
    congr 1
    omega
  wtm_at "go"
  refine i_ite (fun c => ?_) (fun c => ?_)
  · have c1 : s.talk = 1 := of_decide_eq_true c
    wtm_at "go"
    refine i_ite (fun c' => ?_) (fun c' => ?_)
    · have c2 : n < 12 := of_decide_eq_true c'
      wtm_at "go"
      intro p hp
      have hx : atI (talkWords.map D.str) n = some (.str (wordOf s n)) := by
        have e : wordOf s n = _ := if_pos ⟨c1, c2⟩
        rw [e]
        have : n = 0 ∨ n = 1 ∨ n = 2 ∨ n = 3 ∨ n = 4 ∨ n = 5 ∨ n = 6 ∨ n = 7 ∨ n = 8 ∨ n = 9 ∨ n = 10 ∨ n = 11 := by omega
        rcases this with rfl | rfl | rfl | rfl | rfl | rfl | rfl | rfl | rfl | rfl | rfl | rfl <;> rfl
      wtm_at "go"
      refine i_subL (rd_L mput_same) hx ?_
      exact RtM.sub (Sub.refl.new hp) q
    · have c2 : ¬ n < 12 := of_decide_eq_false c'
      have q' := tail (.inr c2)
      wtm_at "go"
      refine i_subS (by rw [show (Str.ofString "abcdefghijklmnopqrstuvwxyz").length = 26 by decide +kernel]; decide) hc ?_
      wtm_at "go"
      refine i_timesS (mq _ hp0 (by omega)) ?_
      wtm_at "go"
      refine i_plusS (sl ?_) ?_
      · rw [len_q hp0]; show _ + 1 ≤ _; omega
      wtm_at "go"
      refine i_timesS (mq _ (by omega) (by omega)) ?_
      wtm_at "go"
      refine i_plusS (sl ?_) ?_
      · rw [PySem.Str.length_append, len_q hp0, len_q (by omega)]; show _ + 1 + _ ≤ _; omega
      exact RtM.mk q'
  · have c2 : ¬ s.talk = 1 := of_decide_eq_false c
    have q' := tail (.inl c2)
    wtm_at "go"
    refine i_subS (by rw [show (Str.ofString "abcdefghijklmnopqrstuvwxyz").length = 26 by decide +kernel]; decide) hc ?_
    wtm_at "go"
    refine i_timesS (mq _ hp0 (by omega)) ?_
    wtm_at "go"
    refine i_plusS (sl ?_) ?_
    · rw [len_q hp0]; show _ + 1 ≤ _; omega
    wtm_at "go"
    refine i_timesS (mq _ (by omega) (by omega)) ?_
    wtm_at "go"
    refine i_plusS (sl ?_) ?_
    · rw [PySem.Str.length_append, len_q hp0, len_q (by omega)]; show _ + 1 + _ ≤ _; omega
    exact RtM.mk q'
def Row.put (r : Row) (x : Str) (v : Int) : Row := if (r.any fun p => decide (p.1 = x)) = true then r.map fun p => if p.1 = x then (p.1, v) else p else r ++ [(x, v)]
theorem Row.put_len {r : Row} {x : Str} {v : Int} : (r.put x v).length ≤ r.length + 1 := by
  unfold Row.put; split <;> simp
theorem lookup_cons' {α β : Type} [BEq α] {k x : α} {v : β} {r : List (α × β)} : List.lookup x ((k, v) :: r) = if x == k then some v else List.lookup x r := by
  rw [List.lookup_cons]
  split <;> rename_i h <;> simp [h]
theorem Row.put_same {r : Row} {x : Str} {v : Int} : (r.put x v).lookup x = some v := by
  unfold Row.put
  split
  · rename_i h
    induction r with
    | nil => simp at h
    | cons p r ih =>
      obtain ⟨y, j⟩ := p
      by_cases c : y = x
      · subst c; simp [lookup_cons']
      · have c' : ¬ x = y := fun z => c z.symm
        have h' : (r.any fun p => decide (p.1 = x)) = true := by simpa [c] using h
        simpa [c, c', lookup_cons'] using ih h'
  · rename_i h
    induction r with
    | nil => simp [lookup_cons']
    | cons p r ih =>
      obtain ⟨y, j⟩ := p
      by_cases c : y = x
      · exact absurd (by simp [c]) h
      · have c' : ¬ x = y := fun z => c z.symm
        have h' : ¬ (r.any fun p => decide (p.1 = x)) = true := by simpa [c] using h
        simpa [c', lookup_cons'] using ih h'
theorem Row.put_ne {r : Row} {x y : Str} {v : Int} (n : y ≠ x) : (r.put x v).lookup y = r.lookup y := by
  unfold Row.put
  split
  · rename_i h; clear h
    induction r with
    | nil => rfl
    | cons p r ih =>
      obtain ⟨z, j⟩ := p
      by_cases c : z = x
      · subst c; simp [n, lookup_cons', ih]
      · simp [c, lookup_cons', ih]
  · rename_i h; clear h
    induction r with
    | nil => simp [n, lookup_cons']
    | cons p r ih =>
      obtain ⟨z, j⟩ := p
      simp [lookup_cons', ih]
theorem Row.put_keys {r : Row} {x : Str} {v : Int} : (r.put x v).map (·.1) = if x ∈ r.map (·.1) then r.map (·.1) else r.map (·.1) ++ [x] := by
  unfold Row.put
  have e : (r.any fun p => decide (p.1 = x)) = true ↔ x ∈ r.map (·.1) := by
    simp only [List.any_eq_true, decide_eq_true_eq, List.mem_map]
  by_cases c : x ∈ r.map (·.1)
  · rw [if_pos (e.mpr c), if_pos c, List.map_map]
    apply List.map_congr_left
    intro p _
    show (if p.1 = x then (p.1, v) else p).1 = p.1
    split <;> rfl
  · rw [if_neg (fun z => c (e.mp z)), if_neg c, List.map_append]; rfl
structure RowI (r : Row) (nms : List Str) : Prop where
  len : r.length ≤ nms.length
  nd : (r.map (·.1)).Nodup
  lk : ∀ x ∈ nms, ∃ i, r.lookup x = some i ∧ i.natAbs < 10 ^ 12
  sb : ∀ p ∈ r, p.1 ∈ nms
theorem RowI.put {r : Row} {nms : List Str} {x : Str} {v : Int} (h : RowI r nms) (hv : v.natAbs < 10 ^ 12) : RowI (r.put x v) (nms ++ [x]) := by
  refine ⟨?_, ?_, fun y hy => ?_, fun p hp => ?_⟩
  · have := Row.put_len (r := r) (x := x) (v := v)
    have := h.len
    rw [List.length_append, List.length_singleton]; omega
  · rw [Row.put_keys]
    split
    · exact h.nd
    · rename_i c
      rw [List.nodup_append]
      refine ⟨h.nd, by simp, fun a ha b hb => ?_⟩
      simp only [List.mem_singleton] at hb
      subst hb; rintro rfl; exact c ha
  · by_cases c : y = x
    · subst c; exact ⟨v, Row.put_same, hv⟩
    · rw [Row.put_ne c]
      rw [List.mem_append, List.mem_singleton] at hy
      rcases hy with hy | hy
      · exact h.lk y hy
      · exact absurd hy c
  · have : p.1 ∈ (r.put x v).map (·.1) := List.mem_map_of_mem hp
    rw [Row.put_keys] at this
    rw [List.mem_append, List.mem_singleton]
    split at this
    · obtain ⟨q, hq, e⟩ := List.mem_map.mp this
      exact .inl (e ▸ h.sb q hq)
    · rw [List.mem_append, List.mem_singleton] at this
      rcases this with this | this
      · obtain ⟨q, hq, e⟩ := List.mem_map.mp this
        exact .inl (e ▸ h.sb q hq)
      · exact .inr this
def Kp (a : Addr) (m m' : Mem) : Prop := ∀ b o, b ≠ a → m b = some o → m' b = some o
theorem Kp.refl {a : Addr} {m : Mem} : Kp a m m := fun _ _ _ h => h
theorem Kp.trans {a : Addr} {m m1 m2 : Mem} (h : Kp a m m1) (h2 : Kp a m1 m2) : Kp a m m2 := fun b o n e => h2 b o n (h b o n e)
theorem Kp.put {a : Addr} {m : Mem} {o : O} : Kp a m (mput m a o) := fun b u n e => by rw [mput_ne n]; exact e
theorem Kp.new {a p : Addr} {m m1 : Mem} {o : O} (h : Kp a m m1) (hp : m1 p = none) : Kp a m (mput m1 p o) := fun b u n e => mput_new hp (h b u n e)
theorem Kp.own {a p : Addr} {m m1 : Mem} {o : O} (h : Kp a m m1) (hp : m p = none) : Kp a m (mput m1 p o) := fun b u n e => by
  rw [mput_ne]
  · exact h b u n e
  · rintro rfl; rw [hp] at e; cases e
theorem Kp.rd {a b : Addr} {m m' : Mem} {o : O} (h : Kp a m m') (n : b ≠ a) (e : rdM m b = some o) : rdM m' b = some o := by
  unfold rdM at e ⊢
  cases q : m b with
  | none => rw [q] at e; cases e
  | some u => rw [q] at e; rw [h _ _ n q]; exact e
theorem DrN.ne {K : PySem.W.Frag} {m : Mem} {a : Addr} {s : Dr} {nms : List Str} (h : DrN m s nms) (I : DrI K m a s) : s.nm ≠ a := by
  intro e
  have h1 := h.1
  rw [e, I.rd] at h1; cases h1
theorem DrN.kp {m m' : Mem} {a : Addr} {s s' : Dr} {nms : List Str} (h : DrN m s nms) (k : Kp a m m') (n : s.nm ≠ a) (e : s.nx s') : DrN m' s' nms := ⟨by rw [e.2.1]; exact k.rd n h.1, h.2⟩
theorem DrI.own {K : PySem.W.Frag} {m : Mem} {a p : Addr} {s : Dr} {o u : O} (h : DrI K m a s) (hp : m p = some o) (n : a ≠ p) (w : ∀ ds, rdM m p ≠ some (.lst ds)) : DrI K (mput m p u) a s := by
  obtain ⟨ns, l, z⟩ := h.sc
  exact ⟨by rw [mput_ne n]; exact h.e, ⟨ns, l.putD hp w, z⟩, h.at0, h.rest0, h.mix0, h.mix1⟩
theorem DrI.kp {K : PySem.W.Frag} {m m' : Mem} {a : Addr} {s s' : Dr} (h : DrI K m a s) (k : Kp a m m') (n : s.nx s') (e : m' a = some s'.o) (h1 : 0 ≤ s'.at_) (h2 : 0 ≤ s'.rest) (h3 : 0 ≤ s'.mixed) (h4 : s'.mixed < 2147483647) : DrI K m' a s' := by
  obtain ⟨ns, l, z⟩ := h.sc
  refine ⟨e, ⟨ns, ?_, z⟩, h1, h2, h3, h4⟩
  rw [n.1]
  rcases l with l | l
  · refine .inl (k.rd ?_ l)
    intro q; rw [q, h.rd] at l; cases l
  · exact .inr l
theorem rangeD_len {i : Int} {n : Nat} : (rangeD i n).length = n := by unfold rangeD; simp
theorem rangeD_mem {i : Int} {n : Nat} {d : D} (h : d ∈ rangeD i n) : ∃ j : Nat, j < n ∧ d = .int (i + j) := by
  unfold rangeD at h
  obtain ⟨j, hj, rfl⟩ := List.mem_map.mp h
  exact ⟨j, List.mem_range.mp hj, rfl⟩
mutual
inductive Ale (m : Mem) : Nat → D → D → Prop
  | non {n : Nat} : Ale m n .non .non
  | bl {n : Nat} {b : Bool} : Ale m n (.bl b) (.bl b)
  | int {n : Nat} {i : Int} : Ale m n (.int i) (.int i)
  | str {n : Nat} {x : Str} : Ale m n (.str x) (.str x)
  | tup {n : Nat} {xs ys : List D} : xs.length ≤ 1000000 → AleA m n xs ys → Ale m (n + 1) (.tup xs) (.tup ys)
  | lst {n : Nat} {a b : Addr} {xs ys : List D} : xs.length ≤ 1000000 → rdM m a = some (.lst xs) → rdM m b = some (.lst ys) → AleA m n xs ys → Ale m (n + 1) (.ref a) (.ref b)
inductive AleA (m : Mem) : Nat → List D → List D → Prop
  | nil {n : Nat} : AleA m n [] []
  | cons {n : Nat} {x y : D} {xs ys : List D} : Ale m n x y → AleA m n xs ys → AleA m n (x :: xs) (y :: ys)
end
theorem AleA.len {m : Mem} {n : Nat} : ∀ {xs ys : List D}, AleA m n xs ys → xs.length = ys.length
  | _, _, .nil => rfl
  | _, _, .cons _ t => congrArg (· + 1) t.len
theorem AleA.at_ {m : Mem} {n : Nat} : ∀ {xs ys : List D} {j : Nat}, AleA m n xs ys → j < xs.length → ∃ x y, atI xs (j : Int) = some x ∧ atI ys (j : Int) = some y ∧ Ale m n x y := by
  intro xs ys j h hj
  have h2 : j < ys.length := by rw [← h.len]; exact hj
  have go : ∀ (j : Nat) (xs ys : List D), AleA m n xs ys → ∀ (h1 : j < xs.length) (h2 : j < ys.length), Ale m n xs[j] ys[j] := by
    intro j
    induction j with
    | zero => intro xs ys h h1 h2; cases h with
      | nil => cases h1
      | cons a t => exact a
    | succ j ih => intro xs ys h h1 h2; cases h with
      | nil => cases h1
      | cons a t => exact ih _ _ t _ _
  exact ⟨xs[j], ys[j], atI_nat (by simp [hj]), atI_nat (by simp [h2]), go j xs ys h hj h2⟩
def spAl (n : Nat) : SpM := fun ds m Q _ => ∃ x y, ds = [x, y] ∧ n ≤ 60 ∧ (∃ k, k < n ∧ Ale m k x y) ∧ Q (.bl true) m
abbrev s__law_alike : Stmt := topS 47
theorem sc__law_alike : FnScope ["_law_found", "_law_due", "_law_name", "_law_k"] ["_law_found", "_law_due"] (defScope s__law_alike) := ⟨rfl, rfl, rfl, by decide +kernel, rfl, by decide +kernel, by decide +kernel⟩
theorem ok_law_alike {k n : Nat} (Z : Bl mg) {f__law_alike : Addr} {fd__law_alike : FuncData} (D__law_alike : Df K mg "_law_alike" f__law_alike fd__law_alike ["_law_found", "_law_due"]) (G__law_alike : FnM P w K mg base CX0 (k) f__law_alike fd__law_alike ["_law_found", "_law_due"] (spAl n)) (F : Fun K "_law_alike" "_law_alike" s__law_alike f__law_alike fd__law_alike) : FnM P w K mg base CX0 (k + 1) f__law_alike fd__law_alike ["_law_found", "_law_due"] (spAl (n + 1)) := by
  refine fn_m F sc__law_alike (fun ds m Q E h => ?_) (fun cdv A outer s H ds m Q E E' hr h => ?_)
  · obtain ⟨x, y, rfl, _⟩ := h; rfl
  have nd := sc__law_alike.nd
  obtain ⟨x, y, rfl, hn, ⟨d, hd, h⟩, q⟩ := h
  refine ⟨_, (mss_cons (ms_if (mt_cmp mo_isN (mv 1) mx_non (nomark _)) (mss_one (ms_ret (mx_cmp mo_isN (mv 0) mx_non (nomark _)))) mss_nil)
    (mss_cons (ms_if (mt_val (mx_callB mc_isinstance2 Z.b_isinstance (ma_cons (mv 1) (ma_cons (mx_ty (T := "bool") Z.b_bool) ma_nil)))) (mss_one (ms_ret (mx_and (mx_callB mc_isinstance2 Z.b_isinstance (ma_cons (mv 0) (ma_cons (mx_ty (T := "bool") Z.b_bool) ma_nil))) (mx_one (mx_cmp (mo_eqq hr) (mv 0) (mv 1) (nomark _)))))) mss_nil)
    (mss_cons (ms_if (mt_val (mx_callB mc_isinstance2 Z.b_isinstance (ma_cons (mv 1) (ma_cons (mx_ty (T := "int") Z.b_int) ma_nil)))) (mss_one (ms_ret (mx_and (mx_callB mc_isinstance2 Z.b_isinstance (ma_cons (mv 0) (ma_cons (mx_ty (T := "int") Z.b_int) ma_nil))) (mx_and (mx_not (mx_callB mc_isinstance2 Z.b_isinstance (ma_cons (mv 0) (ma_cons (mx_ty (T := "bool") Z.b_bool) ma_nil)))) (mx_one (mx_cmp (mo_eqq hr) (mv 0) (mv 1) (nomark _))))))) mss_nil)
    (mss_cons (ms_if (mt_val (mx_callB mc_isinstance2 Z.b_isinstance (ma_cons (mv 1) (ma_cons (mx_ty (T := "str") Z.b_str) ma_nil)))) (mss_one (ms_ret (mx_and (mx_callB mc_isinstance2 Z.b_isinstance (ma_cons (mv 0) (ma_cons (mx_ty (T := "str") Z.b_str) ma_nil))) (mx_one (mx_cmp (mo_eqq hr) (mv 0) (mv 1) (nomark _)))))) mss_nil)
    (mss_cons (ms_if (mt_val (mx_callB mc_isinstance2 Z.b_isinstance (ma_cons (mv 1) (ma_cons (mx_ty (T := "dict") Z.b_dict) ma_nil)))) (mss_cons (ms_if (mw_pt (mw_or (mt_not (mt_val (mx_callB mc_isinstance2 Z.b_isinstance (ma_cons (mv 0) (ma_cons (mx_ty (T := "dict") Z.b_dict) ma_nil))))) (mw_or1 (mt_cmp (mo_neq hr) (mx_callB mc_len1 Z.b_len (ma_cons (mv 0) ma_nil)) (mx_callB mc_len1 Z.b_len (ma_cons (mv 1) ma_nil)) (nomark _))))) (mss_one (ms_ret mx_bl)) mss_nil)
    (mss_one ms_never)) mss_nil)
    (mss_cons (ms_if (mw_pt (mw_or (mt_cmp (mo_neq hr) (mx_callB mc_isinstance2 Z.b_isinstance (ma_cons (mv 1) (ma_cons (mx_ty (T := "tuple") Z.b_tuple) ma_nil))) (mx_callB mc_isinstance2 Z.b_isinstance (ma_cons (mv 0) (ma_cons (mx_ty (T := "tuple") Z.b_tuple) ma_nil))) (nomark _)) (mw_or1 (mt_cmp (mo_neq hr) (mx_callB mc_isinstance2 Z.b_isinstance (ma_cons (mv 1) (ma_cons (mx_ty (T := "list") Z.b_list) ma_nil))) (mx_callB mc_isinstance2 Z.b_isinstance (ma_cons (mv 0) (ma_cons (mx_ty (T := "list") Z.b_list) ma_nil))) (nomark _))))) (mss_one (ms_ret mx_bl)) mss_nil)
    (mss_cons (ms_if (mt_cmp (mo_neq hr) (mx_callB mc_len1 Z.b_len (ma_cons (mv 0) ma_nil)) (mx_callB mc_len1 Z.b_len (ma_cons (mv 1) ma_nil)) (nomark _)) (mss_one (ms_ret mx_bl)) mss_nil)
    (mss_one (ms_ret (mx_callB mc_all1 Z.b_all (ma_cons (mx_lc (own := [("_law_k", 3)]) rfl nd (mi_range1 Z.b_range (ma_cons (mx_callB mc_len1 Z.b_len (ma_cons (mv 1) ma_nil)) ma_nil)) (blkOk_by (by show blkC ["_law_found", "_law_due", "_law_name", "_law_k"] (defScope s__law_alike) _ _ = true; decide +kernel)) (fun _ _ _ _ _ => (pg_name (i := 3) nd rfl (Or.inl rfl))) (gok_name (i := 3) (by decide)) (fun _ _ _ _ _ => mts_nil) (fun _ _ _ _ _ => (mx_call (Em := noX) G__law_alike hr D__law_alike.m D__law_alike.k D__law_alike.b pass0M (ma_cons (mx_ix (mi_sub hr) (mv 0) (mv 3)) (ma_cons (mx_ix (mi_sub hr) (mv 1) (mv 3)) ma_nil))))) ma_nil))))))))))), ?_⟩
  cases h with
  | non => wtm_at "go"
  | bl =>
    wtm_at "go"
    rw [decide_eq_true rfl]
    exact RtM.mk q
  | int =>
    wtm_at "go"
    rw [decide_eq_true rfl]
    exact RtM.mk q
  | str =>
    wtm_at "go"
    rw [decide_eq_true rfl]
    exact RtM.mk q
  | tup h5 ha =>
    have hl := ha.len
    wtm_at "go"
    refine i_iteF ?_ ?_
    · rw [hl]; simp
    wtm_at "go"
    refine ⟨by omega, by omega, ?_⟩
    refine lcC_pure (fun _ => .bl true) (by rw [rangeD_len]; exact Nat.le_of_lt (Nat.lt_of_le_of_lt (show _ ≤ 1000000 by omega) (by decide))) trivial ?_ ?_
    · intro d2 hd2 R hR
      obtain ⟨j, hj, rfl⟩ := rangeD_mem hd2
      obtain ⟨x, y, e1, e2, a1⟩ := ha.at_ (j := j) (by omega)
      rw [Int.zero_add]
      wtm_at "go"
      refine ⟨rfl, ?_⟩
      wtm_at "go"
      refine i_subT e1 ?_
      wtm_at "go"
      refine i_subT e2 ?_
      wtm_at "go"
      exact ⟨_, _, rfl, by omega, ⟨_, by omega, a1⟩, hR⟩
    · intro p hp
      wtm_at "go"
      refine ⟨(rangeD 0 _).map fun _ => true, by rw [List.map_map]; exact rd_L mput_same, ?_⟩
      rw [show (∀ l : List D, (l.map fun _ => true).all id = true) from fun l => by simp]
      exact RtM.sub (Sub.refl.new hp) q
  | lst h5 hx hy ha =>
    have hl := ha.len
    wtm_at "go"
    refine i_iteF ?_ ?_
    · rw [hl]; simp
    wtm_at "go"
    refine ⟨by omega, by omega, ?_⟩
    refine lcC_pure (fun _ => .bl true) (by rw [rangeD_len]; exact Nat.le_of_lt (Nat.lt_of_le_of_lt (show _ ≤ 1000000 by omega) (by decide))) trivial ?_ ?_
    · intro d2 hd2 R hR
      obtain ⟨j, hj, rfl⟩ := rangeD_mem hd2
      obtain ⟨x, y, e1, e2, a1⟩ := ha.at_ (j := j) (by omega)
      rw [Int.zero_add]
      wtm_at "go"
      refine ⟨rfl, ?_⟩
      wtm_at "go"
      refine i_subL hx e1 ?_
      wtm_at "go"
      refine i_subL hy e2 ?_
      wtm_at "go"
      exact ⟨_, _, rfl, by omega, ⟨_, by omega, a1⟩, hR⟩
    · intro p hp
      wtm_at "go"
      refine ⟨(rangeD 0 _).map fun _ => true, by rw [List.map_map]; exact rd_L mput_same, ?_⟩
      rw [show (∀ l : List D, (l.map fun _ => true).all id = true) from fun l => by simp]
      exact RtM.sub (Sub.refl.new hp) q
theorem fin_law_alike {c : Nat} (Z : Bl mg) {f__law_alike : Addr} {fd__law_alike : FuncData} (D__law_alike : Df K mg "_law_alike" f__law_alike fd__law_alike ["_law_found", "_law_due"]) (F : Fun K "_law_alike" "_law_alike" s__law_alike f__law_alike fd__law_alike) : ∀ n, FnM P w K mg base CX0 (c + n) f__law_alike fd__law_alike ["_law_found", "_law_due"] (spAl n)
  | 0 => fn_none fun ds m Q E ⟨x, y, _, _, ⟨k, h, _⟩, _⟩ => by omega
  | n + 1 => ok_law_alike Z D__law_alike (fin_law_alike Z D__law_alike F n) F
mutual
inductive Wn : Nat → D → Str → Prop
  | num {n : Nat} {i : Int} : i.natAbs ≤ 10 ^ 13 → Wn n (.tup [.str "num", .int i]) (Str.ofString (toString i))
  | read {n : Nat} {x : Str} : Wn n (.tup [.str "read", .str x]) x
  | one {n : Nat} {w : Str} : w ≠ "num" → w ≠ "read" → Wn n (.tup [.str w]) w
  | many {n : Nat} {w : Str} {p : D} {ps : List D} {zs : List Str} : w ≠ "num" → w ≠ "read" → WnA n (p :: ps) zs → zs.length ≤ 5 → w.length ≤ 10 → (zs.map (·.length)).sum ≤ 8000000 → Wn (n + 1) (.tup (.str w :: p :: ps)) (w ++ "(" ++ Txt.join ", " zs ++ ")")
inductive WnP : Nat → D → Str → Prop
  | tup {n : Nat} {ds : List D} {z : Str} : Wn n (.tup ds) z → WnP n (.tup ds) z
  | int {n : Nat} {i : Int} : i.natAbs ≤ 10 ^ 13 → WnP n (.int i) (Str.ofString (toString i))
  | str {n : Nat} {x : Str} : WnP n (.str x) x
inductive WnA : Nat → List D → List Str → Prop
  | nil {n : Nat} : WnA n [] []
  | cons {n : Nat} {d : D} {ds : List D} {z : Str} {zs : List Str} : WnP n d z → WnA n ds zs → WnA n (d :: ds) (z :: zs)
end
theorem WnA.len {n : Nat} : ∀ {ds : List D} {zs : List Str}, WnA n ds zs → ds.length = zs.length
  | _, _, .nil => rfl
  | _, _, .cons _ t => congrArg (· + 1) t.len
theorem lcC_wr {K : PySem.W.Frag} {n : Nat} {chk : Mem → Prop} {g : TGm} {te : TEm} {vs : List Nat} {ρ : StM} {m : Mem} {QA : List D → Mem → Prop} : ∀ {ds : List D} {zs : List Str} {acc : List Str}, WnA n ds zs → chk m → acc.length + ds.length < 1000 →
    (∀ d z, WnP n d z → ∀ R : KM, R (.str z) m → g d (wipeM ρ vs) m fun ρ2 m2 => wipeM ρ2 vs = wipeM ρ vs ∧ te ρ2 m2 R) → QA ((acc ++ zs).map .str) m → lcC chk g wYes te vs ρ QA ds (acc.map .str) m
  | _, _, acc, .nil, hk, _, _, q => ⟨hk, by rw [List.append_nil] at q; exact q⟩
  | d :: ds, z :: zs, acc, .cons hd t, hk, hl, hb, q => by
    refine ⟨hk, ?_⟩
    simp only [List.length_cons] at hl
    refine hb d z hd _ ⟨by rw [List.length_map]; exact small1000 (by omega), ?_⟩
    have e : acc.map D.str ++ [.str z] = (acc ++ [z]).map .str := by rw [List.map_append]; rfl
    rw [e]
    exact lcC_wr (K := K) t hk (by rw [List.length_append, List.length_singleton]; omega) hb (by rw [List.append_assoc]; exact q)
theorem log_small {i : Int} (h : i.natAbs ≤ 10 ^ 13) : i.natAbs.log2 < 1920 := by
  have h2 : i.natAbs < 2 ^ 50 := by omega
  have := PySem.Flt.log2_lt_of (k := 50) (by decide) h2
  omega
def spWrP (n : Nat) : SpM := fun ds m Q _ => ∃ d z, ds = [d] ∧ (∃ k, k < n ∧ WnP k d z) ∧ Q (.str z) m
theorem cut1 {x : D} {xs : List D} : cutL (x :: xs) (some 1) none = xs := by
  unfold cutL
  simp [HT.sIx]
theorem join_le {a : Str} : ∀ {ys : List Str}, (Txt.join a ys).length ≤ (ys.map (·.length)).sum + ys.length * a.length := by
  intro ys
  show (Builtin.Str.glued a ys).length ≤ _
  rw [size_glued]
  have := Nat.mul_le_mul_right a.length (Nat.sub_le ys.length 1)
  omega
abbrev s__law_text : Stmt := topS 48
theorem sc__law_text : FnScope ["_law_told_here", "_law_one"] ["_law_told_here"] (defScope s__law_text) := ⟨rfl, rfl, rfl, by decide +kernel, rfl, by decide +kernel, by decide +kernel⟩
theorem ok_law_text {k n : Nat} (Z : Bl mg) {f__law_text : Addr} {fd__law_text : FuncData} (D__law_text : Df K mg "_law_text" f__law_text fd__law_text ["_law_told_here"]) (G__law_text : FnM P w K mg base CX0 (k) f__law_text fd__law_text ["_law_told_here"] (spWrP n)) (F : Fun K "_law_text" "_law_text" s__law_text f__law_text fd__law_text) : FnM P w K mg base CX0 (k + 1) f__law_text fd__law_text ["_law_told_here"] (spWrP (n + 1)) := by
  refine fn_m F sc__law_text (fun ds m Q E h => ?_) (fun cdv A outer s H ds m Q E E' hr h => ?_)
  · obtain ⟨d, z, rfl, _⟩ := h; rfl
  have nd := sc__law_text.nd
  obtain ⟨d, z, rfl, ⟨j, hj, h⟩, q⟩ := h
  refine ⟨_, (mss_cons (ms_if (mt_val (mx_callB mc_isinstance2 Z.b_isinstance (ma_cons (mv 0) (ma_cons (mx_ty (T := "int") Z.b_int) ma_nil)))) (mss_one (ms_ret (mx_callTy mc_str1 Z.b_str (ma_cons (mv 0) ma_nil)))) mss_nil)
    (mss_cons (ms_if (mt_val (mx_callB mc_isinstance2 Z.b_isinstance (ma_cons (mv 0) (ma_cons (mx_ty (T := "str") Z.b_str) ma_nil)))) (mss_one (ms_ret (mv 0))) mss_nil)
    (mss_cons (ms_if (mw_pt (mw_or (mt_cmp (mo_eqq hr) (mx_ix (mi_sub hr) (mv 0) mx_int) mx_str (nomark _)) (mw_or1 (mt_cmp (mo_eqq hr) (mx_ix (mi_sub hr) (mv 0) mx_int) mx_str (nomark _))))) (mss_one (ms_ret (mx_callTy mc_str1 Z.b_str (ma_cons (mx_ix (mi_sub hr) (mv 0) mx_int) ma_nil)))) mss_nil)
    (mss_cons (ms_if (mt_cmp (mo_eqq hr) (mx_callB mc_len1 Z.b_len (ma_cons (mv 0) ma_nil)) mx_int (nomark _)) (mss_one (ms_ret (mx_ix (mi_sub hr) (mv 0) mx_int))) mss_nil)
    (mss_one (ms_ret (mx_op mo_plus (mx_op mo_plus (mx_op mo_plus (mx_ix (mi_sub hr) (mv 0) mx_int) mx_str) (mx_join mx_str (mx_lc (own := [("_law_one", 1)]) rfl nd (mi_tup (mx_slice (mv 0) (mo_some mx_int) mo_none)) (blkOk_by (by show blkC ["_law_told_here", "_law_one"] (defScope s__law_text) _ _ = true; decide +kernel)) (fun _ _ _ _ _ => (pg_name (i := 1) nd rfl (Or.inl rfl))) (gok_name (i := 1) (by decide)) (fun _ _ _ _ _ => mts_nil) (fun _ _ _ _ _ => (mx_call (Em := noX) G__law_text hr D__law_text.m D__law_text.k D__law_text.b pass0M (ma_cons (mv 1) ma_nil)))))) mx_str))))))), ?_⟩
  cases h with
  | int hi =>
    wtm_at "go"
    exact ⟨log_small hi, RtM.mk q⟩
  | str =>
    wtm_at "go"
  | tup h =>
    cases h with
    | num hi =>
      wtm_at "go"
      exact ⟨log_small hi, RtM.mk q⟩
    | read => wtm_at "go"
    | one n1 n2 =>
      wtm_at "go"
      refine i_iteF (decide_eq_false n1) ?_
      wtm_at "go"
      refine i_iteF (decide_eq_false n2) ?_
      wtm_at "go"
    | @many n w p ps zs n1 n2 ha h5 hw hs =>
      wtm_at "go"
      refine i_iteF (decide_eq_false n1) ?_
      wtm_at "go"
      refine i_iteF (decide_eq_false n2) ?_
      wtm_at "go"
      refine i_iteF (by simp; omega) ?_
      wtm_at "go"
      refine i_plusS (sl (by rw [show (Str.ofString "(").length = 1 by decide +kernel]; omega)) ?_
      wtm_at "go"
      rw [cut1]
      have hl := ha.len
      simp only [List.length_cons] at hl
      refine lcC_wr (K := K) (acc := []) ha trivial (by simp; omega) (fun d z hd R hR => ⟨rfl, ?_⟩) ?_
      · wtm_at "go"
        exact ⟨d, z, rfl, ⟨_, by omega, hd⟩, hR⟩
      intro c hc
      wtm_at "go"
      have h2 : (Str.ofString ", ").length = 2 := by decide +kernel
      refine ⟨zs, rd_L mput_same, by rw [h2]; omega, ?_⟩
      wtm_at "go"
      have hj := join_le (a := Str.ofString ", ") (ys := zs)
      rw [h2] at hj
      have l1 : (Str.ofString "(").length = 1 := by decide +kernel
      have l3 : (Str.ofString ")").length = 1 := by decide +kernel
      refine i_plusS ?_ ?_
      · rw [PySem.Str.length_append, l1]
        show _ ≤ 2 ^ 24
        omega
      wtm_at "go"
      refine i_plusS ?_ ?_
      · rw [PySem.Str.length_append, PySem.Str.length_append, l1, l3]
        show _ ≤ 2 ^ 24
        omega
      exact RtM.sub (Sub.refl.new hc) q
theorem fin_law_text {c : Nat} (Z : Bl mg) {f__law_text : Addr} {fd__law_text : FuncData} (D__law_text : Df K mg "_law_text" f__law_text fd__law_text ["_law_told_here"]) (F : Fun K "_law_text" "_law_text" s__law_text f__law_text fd__law_text) : ∀ n, FnM P w K mg base CX0 (c + n) f__law_text fd__law_text ["_law_told_here"] (spWrP n)
  | 0 => fn_none fun ds m Q E ⟨d, z, _, ⟨k, h, _⟩, _⟩ => by omega
  | n + 1 => ok_law_text Z D__law_text (fin_law_text Z D__law_text F n) F
theorem fin_law_told {c : Nat} (Z : Bl mg) {f__law_taken : Addr} {fd__law_taken : FuncData} (D__law_taken : Df K mg "_law_taken" f__law_taken fd__law_taken ["_law_s", "_law_most"]) (G__law_taken : FnM P w K mg base CX0 (c) f__law_taken fd__law_taken ["_law_s", "_law_most"] (spTaken K)) {f__law_number : Addr} {fd__law_number : FuncData} (D__law_number : Df K mg "_law_number" f__law_number fd__law_number ["_law_s"]) (G__law_number : FnM P w K mg base CX0 (c) f__law_number fd__law_number ["_law_s"] (spNumber K)) {f__law_told : Addr} {fd__law_told : FuncData} (D__law_told : Df K mg "_law_told" f__law_told fd__law_told ["_law_s", "_law_deep"]) (F : Fun K "_law_told" "_law_told" s__law_told f__law_told fd__law_told) : ∀ n, FnM P w K mg base CX0 (c + n) f__law_told fd__law_told ["_law_s", "_law_deep"] (spTold K n)
  | 0 => fn_none fun ds m Q E ⟨a, s, nms, dp, _, h, _⟩ => by omega
  | n + 1 => ok_law_told Z D__law_taken (G__law_taken.mono (Nat.le_add_right c n)) D__law_number (G__law_number.mono (Nat.le_add_right c n)) D__law_told (fin_law_told Z D__law_taken G__law_taken D__law_number G__law_number D__law_told F n) F
inductive Asked where
  | lt (a b : Told) | no (a : Asked) | all (a b : Asked) | any (a b : Asked)
def Asked.d : Asked → D
  | .lt a b => .tup [.str "below", a.d, b.d]
  | .no a => .tup [.str "not", a.d]
  | .all a b => .tup [.str "all", a.d, b.d]
  | .any a b => .tup [.str "any", a.d, b.d]
def Asked.dp : Asked → Nat
  | .lt _ _ => 0
  | .no a => a.dp + 1
  | .all a b => max a.dp b.dp + 1
  | .any a b => max a.dp b.dp + 1
def Asked.td : Asked → Nat
  | .lt a b => max a.dp b.dp
  | .no a => a.td
  | .all a b => max a.td b.td
  | .any a b => max a.td b.td
def Asked.val (r : Row) : Asked → Bool
  | .lt a b => decide (a.val r < b.val r)
  | .no a => !a.val r
  | .all a b => if a.val r = true then b.val r else false
  | .any a b => if a.val r = true then true else b.val r
def Asked.ok (r : Row) : Asked → Prop
  | .lt a b => a.ok r ∧ b.ok r
  | .no a => a.ok r
  | .all a b => a.ok r ∧ b.ok r
  | .any a b => a.ok r ∧ b.ok r
def Asked.of (nms : List Str) : Asked → Prop
  | .lt a b => a.of nms ∧ b.of nms
  | .no a => a.of nms
  | .all a b => a.of nms ∧ b.of nms
  | .any a b => a.of nms ∧ b.of nms
def spAsked (K : PySem.W.Frag) (n : Nat) : SpM := fun ds m Q _ => ∃ (a : Addr) (s : Dr) (nms : List Str) (dp : Nat), ds = [.ref a, .int dp] ∧ dp < n ∧ DrI K m a s ∧ DrN m s nms ∧
  ∀ (t : Asked) s', t.dp ≤ dp → t.td ≤ 1 → t.of nms → s.nx s' → DrI K (mput m a s'.o) a s' → Q t.d (mput m a s'.o)
abbrev s__law_asked : Stmt := topS 41
theorem sc__law_asked : FnScope ["_law_s", "_law_deep", "_law_way", "_law_one"] ["_law_s", "_law_deep"] (defScope s__law_asked) := ⟨rfl, rfl, rfl, by decide +kernel, rfl, by decide +kernel, by decide +kernel⟩
theorem ok_law_asked {k n : Nat} (Z : Bl mg) {f__law_taken : Addr} {fd__law_taken : FuncData} (D__law_taken : Df K mg "_law_taken" f__law_taken fd__law_taken ["_law_s", "_law_most"]) (G__law_taken : FnM P w K mg base CX0 (k) f__law_taken fd__law_taken ["_law_s", "_law_most"] (spTaken K)) {f__law_told : Addr} {fd__law_told : FuncData} (D__law_told : Df K mg "_law_told" f__law_told fd__law_told ["_law_s", "_law_deep"]) (G__law_told : FnM P w K mg base CX0 (k) f__law_told fd__law_told ["_law_s", "_law_deep"] (spTold K 2)) {f__law_asked : Addr} {fd__law_asked : FuncData} (D__law_asked : Df K mg "_law_asked" f__law_asked fd__law_asked ["_law_s", "_law_deep"]) (G__law_asked : FnM P w K mg base CX0 (k) f__law_asked fd__law_asked ["_law_s", "_law_deep"] (spAsked K n)) (F : Fun K "_law_asked" "_law_asked" s__law_asked f__law_asked fd__law_asked) : FnM P w K mg base CX0 (k + 1) f__law_asked fd__law_asked ["_law_s", "_law_deep"] (spAsked K (n + 1)) := by
  refine fn_m F sc__law_asked (fun ds m Q E h => ?_) (fun cdv A outer s H ds m Q E E' hr h => ?_)
  · obtain ⟨a, s, nms, dp, rfl, _⟩ := h; rfl
  have nd := sc__law_asked.nd
  obtain ⟨a, s, nms, dp, rfl, hd, I, hN, q⟩ := h
  refine ⟨_, (mss_cons (ms_set (i := 2) nd rfl (.inl rfl) (mx_call (Em := noX) G__law_taken hr D__law_taken.m D__law_taken.k D__law_taken.b pass0M (ma_cons (mv 0) (ma_cons mx_int ma_nil))))
    (mss_cons (ms_if (mw_pt (mw_or (mt_cmp mo_lt (mv 2) mx_int (nomark _)) (mw_or1 (mt_cmp (mo_eqq hr) (mv 1) mx_int (nomark _))))) (mss_cons (ms_set (i := 3) nd rfl (.inl rfl) (mx_call (Em := noX) G__law_told hr D__law_told.m D__law_told.k D__law_told.b pass0M (ma_cons (mv 0) (ma_cons mx_int ma_nil))))
    (mss_one (ms_ret (mx_tup (ma_cons mx_str (ma_cons (mv 3) (ma_cons (mx_call (Em := noX) G__law_told hr D__law_told.m D__law_told.k D__law_told.b pass0M (ma_cons (mv 0) (ma_cons mx_int ma_nil))) ma_nil))))))) mss_nil)
    (mss_cons (ms_set (i := 3) nd rfl (.inl rfl) (mx_call (Em := noX) G__law_asked hr D__law_asked.m D__law_asked.k D__law_asked.b pass0M (ma_cons (mv 0) (ma_cons (mx_op mo_sub (mv 1) mx_int) ma_nil))))
    (mss_cons (ms_if (mt_cmp (mo_eqq hr) (mv 2) mx_int (nomark _)) (mss_one (ms_ret (mx_tup (ma_cons mx_str (ma_cons (mv 3) ma_nil))))) mss_nil)
    (mss_one (ms_ret (mx_tup (ma_cons (mx_ix (mi_sub hr) (mx_lst (ma_cons mx_str (ma_cons mx_str ma_nil))) (mx_op mo_sub (mv 2) mx_int)) (ma_cons (mv 3) (ma_cons (mx_call (Em := noX) G__law_asked hr D__law_asked.m D__law_asked.k D__law_asked.b pass0M (ma_cons (mv 0) (ma_cons (mx_op mo_sub (mv 1) mx_int) ma_nil))) ma_nil)))))))))), ?_⟩
  wtm_at "go"
  refine spTaken.mk I (by decide) (by decide) fun way s1 h0 h1 n1 I1 => ?_
  have N1 := hN.put I n1
  have e2 : ∀ s1 s' : Dr, mput (mput m a s1.o) a s'.o = mput m a s'.o := fun s1 s' => mput_mput
  have I1e := I1.e
  have I1r := I1.rd
  wtm_at "go"
  refine i_ite (fun c => ?_) (fun c => ?_)
  rotate_left
  wtm_at "go"
  refine i_ite (fun c' => ?_) (fun c' => ?_)
  rotate_left
  · have c1 : ¬ way < 3 := of_decide_eq_false c
    have c2 : ¬ (dp : Int) = 0 := of_decide_eq_false c'
    have ed : (dp : Int) - 1 = ((dp - 1 : Nat) : Int) := by omega
    wtm_at "go"
    rw [ed]
    refine ⟨a, s1, nms, dp - 1, rfl, by omega, I1, N1, fun t1 s2 d1 w1 o1 n2 I2 => ?_⟩
    rw [e2] at I2 ⊢
    have N2 := N1.put I1 n2
    rw [e2] at N2
    wtm_at "go"
    refine i_ite (fun c3 => ?_) (fun c3 => ?_)
    · wtm_at "go"
      exact RtM.mk (q (.no t1) s2 (by show t1.dp + 1 ≤ dp; omega) w1 o1 (Dr.nx_trans n1 n2) I2)
    · have c4 : ¬ way = 3 := of_decide_eq_false c3
      wtm_at "go"
      intro p hp
      have I2' := I2.new (o := .lst [.str (Str.ofString "all"), .str (Str.ofString "any")]) hp
      obtain ⟨wd, mk, hj, g1, g2, g3, g4⟩ : ∃ (wd : Str) (mk : Asked → Asked → Asked), atI [D.str (Str.ofString "all"), .str (Str.ofString "any")] (way - 4) = some (.str wd) ∧ (∀ x y, (mk x y).d = .tup [.str wd, x.d, y.d]) ∧ (∀ x y, (mk x y).dp = max x.dp y.dp + 1) ∧ (∀ x y, (mk x y).td = max x.td y.td) ∧ (∀ x y, x.of nms → y.of nms → (mk x y).of nms) := by
        have : way = 4 ∨ way = 5 := by omega
        rcases this with rfl | rfl
        · exact ⟨"all", .all, rfl, fun _ _ => rfl, fun _ _ => rfl, fun _ _ => rfl, fun _ _ a b => ⟨a, b⟩⟩
        · exact ⟨"any", .any, rfl, fun _ _ => rfl, fun _ _ => rfl, fun _ _ => rfl, fun _ _ a b => ⟨a, b⟩⟩
      wtm_at "go"
      refine i_subL (rd_L mput_same) hj ?_
      wtm_at "go"
      rw [ed]
      refine ⟨a, s2, nms, dp - 1, rfl, by omega, I2', N2.new hp, fun t2 s3 d2 w2 o2 n3 I3 => ?_⟩
      have I3' : DrI K (mput m a s3.o) a s3 := by
        have := DrI.put (s' := s3) I2 n3.1 I3.at0 I3.rest0 I3.mix0 I3.mix1
        rw [e2] at this; exact this
      wtm_at "go"
      rw [← g1]
      refine RtM.sub ?_ (q (mk t1 t2) s3 (by rw [g2]; omega) (by rw [g3]; omega) (g4 _ _ o1 o2) (Dr.nx_trans n1 (Dr.nx_trans n2 n3)) I3')
      rw [← e2 s2 s3]; exact Sub.put (Sub.refl.new hp)
  all_goals (
    wtm_at "go"
    refine ⟨a, s1, nms, 1, rfl, by omega, I1, N1, fun t1 s2 d1 o1 n2 I2 => ?_⟩
    rw [e2] at I2 ⊢
    have N2 := N1.put I1 n2
    rw [e2] at N2
    wtm_at "go"
    refine ⟨a, s2, nms, 1, rfl, by omega, I2, N2, fun t2 s3 d2 o2 n3 I3 => ?_⟩
    rw [e2] at I3 ⊢
    wtm_at "go"
    exact RtM.mk (q (.lt t1 t2) s3 (Nat.zero_le _) (by show max t1.dp t2.dp ≤ 1; omega) ⟨o1, o2⟩ (Dr.nx_trans n1 (Dr.nx_trans n2 n3)) I3))
theorem fin_law_asked {c : Nat} (Z : Bl mg) {f__law_taken : Addr} {fd__law_taken : FuncData} (D__law_taken : Df K mg "_law_taken" f__law_taken fd__law_taken ["_law_s", "_law_most"]) (G__law_taken : FnM P w K mg base CX0 (c) f__law_taken fd__law_taken ["_law_s", "_law_most"] (spTaken K)) {f__law_told : Addr} {fd__law_told : FuncData} (D__law_told : Df K mg "_law_told" f__law_told fd__law_told ["_law_s", "_law_deep"]) (G__law_told : FnM P w K mg base CX0 (c) f__law_told fd__law_told ["_law_s", "_law_deep"] (spTold K 2)) {f__law_asked : Addr} {fd__law_asked : FuncData} (D__law_asked : Df K mg "_law_asked" f__law_asked fd__law_asked ["_law_s", "_law_deep"]) (F : Fun K "_law_asked" "_law_asked" s__law_asked f__law_asked fd__law_asked) : ∀ n, FnM P w K mg base CX0 (c + n) f__law_asked fd__law_asked ["_law_s", "_law_deep"] (spAsked K n)
  | 0 => fn_none fun ds m Q E ⟨a, s, nms, dp, _, h, _⟩ => by omega
  | n + 1 => ok_law_asked Z D__law_taken (G__law_taken.mono (Nat.le_add_right c n)) D__law_told (G__law_told.mono (Nat.le_add_right c n)) D__law_asked (fin_law_asked Z D__law_taken G__law_taken D__law_told G__law_told D__law_asked F n) F
local macro_rules | `(tactic| wtm_at "mem") => `(tactic| with_reducible (apply rd_frz; wtm_at "mem"))
local macro_rules | `(tactic| wtm_at "mem") => `(tactic| with_reducible (apply rd_I; wtm_at "mem"))
local macro_rules | `(tactic| wtm_at "mem") => `(tactic| with_reducible (apply rd_T; wtm_at "mem"))
local macro_rules | `(tactic| wtm_at "mem") => `(tactic| with_reducible (apply rd_L; wtm_at "mem"))
local macro_rules | `(tactic| wtm_at "mem") => `(tactic| with_reducible (apply rd_K; wtm_at "mem"))
local macro_rules | `(tactic| wtm_at "mem") => `(tactic| with_reducible (apply mput_off'; assumption; wtm_at "mem"))
local macro_rules | `(tactic| wtm_at "mem") => `(tactic| with_reducible (apply mput_off; assumption; wtm_at "mem"))
local macro_rules | `(tactic| wtm_at "mem") => `(tactic| with_reducible (apply mput_new; assumption; wtm_at "mem"))
local macro_rules | `(tactic| wtm_at "mem") => `(tactic| with_reducible (apply DrS.nl; assumption))
local macro_rules | `(tactic| wtm_at "mem") => `(tactic| with_reducible (apply DrS.e; assumption))
local macro_rules | `(tactic| wtm_at "mem") => `(tactic| with_reducible (apply DrS.rd; assumption))
local macro_rules | `(tactic| wtm_at "mem") => `(tactic| with_reducible (exact mput_same))
local macro_rules | `(tactic| wtm_at "mem") => `(tactic| with_reducible (assumption))
structure DrS (K : PySem.W.Frag) (m : Mem) (a : Addr) (nms : List Str) (s : Dr) (M : Mem) : Prop where
  I : DrI K M a s
  N : DrN M s nms
  S : Sub (mput m a s.o) M
  J : DrI K (mput m a s.o) a s
theorem DrS.start {K : PySem.W.Frag} {m : Mem} {a : Addr} {nms : List Str} {s : Dr} (I : DrI K m a s) (N : DrN m s nms) : DrS K m a nms s m := ⟨I, N, by rw [mput_self I.e]; exact Sub.refl, by rw [mput_self I.e]; exact I⟩
theorem DrS.on {K : PySem.W.Frag} {m M : Mem} {a : Addr} {nms : List Str} {s s' : Dr} (S : DrS K m a nms s M) (n : s.nx s') (I : DrI K (mput M a s'.o) a s') : DrS K m a nms s' (mput M a s'.o) := by
  refine ⟨I, S.N.put S.I n, ?_, ?_⟩
  · have : mput (mput m a s.o) a s'.o = mput m a s'.o := mput_mput
    rw [← this]; exact S.S.put
  · have := S.J.put (s' := s') n.1 I.at0 I.rest0 I.mix0 I.mix1
    have e : mput (mput m a s.o) a s'.o = mput m a s'.o := mput_mput
    rw [e] at this; exact this
theorem DrS.new {K : PySem.W.Frag} {m M : Mem} {a p : Addr} {nms : List Str} {s : Dr} {o : O} (S : DrS K m a nms s M) (hp : M p = none) : DrS K m a nms s (mput M p o) := ⟨S.I.new hp, S.N.new hp, S.S.new hp, S.J⟩
theorem DrS.rd {K : PySem.W.Frag} {m M : Mem} {a : Addr} {nms : List Str} {s : Dr} (S : DrS K m a nms s M) : rdM M a = some (.dK s.kvs) := S.I.rd
theorem DrS.e {K : PySem.W.Frag} {m M : Mem} {a : Addr} {nms : List Str} {s : Dr} (S : DrS K m a nms s M) : M a = some (.dK s.kvs) := S.I.e
theorem DrS.nl {K : PySem.W.Frag} {m M : Mem} {a : Addr} {nms : List Str} {s : Dr} (S : DrS K m a nms s M) : rdM M s.nm = some (.lst (nms.map .str)) := S.N.1
theorem spTaken.mkS {K : PySem.W.Frag} {m M : Mem} {Q : KM} {Em : XM} {a : Addr} {k : Int} {s : Dr} {nms : List Str} (S : DrS K m a nms s M) (h0 : 0 < k) (h1 : k ≤ 10 ^ 13)
    (q : ∀ r s', 0 ≤ r → r < k → s.nx s' → DrS K m a nms s' (mput M a s'.o) → Q (.int r) (mput M a s'.o)) : spTaken K [.ref a, .int k] M Q Em :=
  ⟨a, k, s, rfl, S.I, h0, h1, fun r s' a0 a1 n I => q r s' a0 a1 n (S.on n I)⟩
theorem spTold.mkS {K : PySem.W.Frag} {m M : Mem} {Q : KM} {Em : XM} {a : Addr} {s : Dr} {nms : List Str} {n dp : Nat} {x : Int} (S : DrS K m a nms s M) (e : x = dp) (h : dp < n)
    (q : ∀ (t : Told) s', t.dp ≤ dp → t.of nms → s.nx s' → DrS K m a nms s' (mput M a s'.o) → Q t.d (mput M a s'.o)) : spTold K n [.ref a, .int x] M Q Em :=
  ⟨a, s, nms, dp, by rw [e], h, S.I, S.N, fun r s' a0 a1 n I => q r s' a0 a1 n (S.on n I)⟩
theorem spAsked.mkS {K : PySem.W.Frag} {m M : Mem} {Q : KM} {Em : XM} {a : Addr} {s : Dr} {nms : List Str} {n dp : Nat} {x : Int} (S : DrS K m a nms s M) (e : x = dp) (h : dp < n)
    (q : ∀ (t : Asked) s', t.dp ≤ dp → t.td ≤ 1 → t.of nms → s.nx s' → DrS K m a nms s' (mput M a s'.o) → Q t.d (mput M a s'.o)) : spAsked K n [.ref a, .int x] M Q Em :=
  ⟨a, s, nms, dp, by rw [e], h, S.I, S.N, fun r s' a0 a1 a2 n I => q r s' a0 a1 a2 n (S.on n I)⟩
theorem wordOf_nx {s s' : Dr} (n : s.nx s') : wordOf s' = wordOf s := by
  obtain ⟨_, _, h1, h2, h3, h4⟩ := n
  funext k
  unfold wordOf
  rw [h1, h2, h3, h4]
theorem spWord.mkS {K : PySem.W.Frag} {m M : Mem} {Q : KM} {Em : XM} {a : Addr} {s : Dr} {nms : List Str} {k : Int} (S : DrS K m a nms s M) (B : DrB s) (h0 : 0 ≤ k) (q : Q (.str (wordOf s k)) M) : spWord K [.ref a, .int k] M Q Em := ⟨a, s, k, rfl, S.rd, B, h0, q⟩
inductive Con where
  | no | give (a b g : Str) (t : Told) | both (x y : Con) | turned (a b : Str) (x : Con) | later (h : Int) (x : Con) | often (n k : Int) (x : Con) | ite (q : Asked) (x y : Con) | when (q : Asked) (x : Con) | till (q : Asked) (x : Con)
def Con.d : Con → D
  | .no => .tup [.str "none"]
  | .give a b g t => .tup [.str "give", .str a, .str b, .str g, t.d]
  | .both x y => .tup [.str "both", x.d, y.d]
  | .turned a b x => .tup [.str "turned", .str a, .str b, x.d]
  | .later h x => .tup [.str "later", .int h, x.d]
  | .often n k x => .tup [.str "often", .int n, .int k, x.d]
  | .ite q x y => .tup [.str "if", q.d, x.d, y.d]
  | .when q x => .tup [.str "when", q.d, x.d]
  | .till q x => .tup [.str "until", q.d, x.d]
def sidesOf (wd : Int → Str) (a b : Str) : Prop := ∃ i j : Int, 0 ≤ i ∧ i < 4 ∧ 0 ≤ j ∧ j < 4 ∧ i ≠ j ∧ a = wd i ∧ b = wd j
def goodOf (wd : Int → Str) (g : Str) : Prop := ∃ i : Int, 4 ≤ i ∧ i < 8 ∧ g = wd i
def Con.of (wd : Int → Str) (nms : List Str) : Con → Prop
  | .no => True
  | .give a b g t => sidesOf wd a b ∧ goodOf wd g ∧ t.of nms ∧ t.dp ≤ 2
  | .both x y => x.of wd nms ∧ y.of wd nms
  | .turned a b x => sidesOf wd a b ∧ x.of wd nms
  | .later h x => (0 ≤ h ∧ h ≤ 99) ∧ x.of wd nms
  | .often n k x => (1 ≤ n ∧ n ≤ 9 ∧ 1 ≤ k ∧ k ≤ 2) ∧ x.of wd nms
  | .ite q x y => (q.of nms ∧ q.dp ≤ 2 ∧ q.td ≤ 1) ∧ x.of wd nms ∧ y.of wd nms
  | .when q x => (q.of nms ∧ q.dp ≤ 2 ∧ q.td ≤ 1) ∧ x.of wd nms
  | .till q x => (q.of nms ∧ q.dp ≤ 2 ∧ q.td ≤ 1) ∧ x.of wd nms
def Con.dp : Con → Nat
  | .no => 0
  | .give _ _ _ _ => 0
  | .both x y => max x.dp y.dp + 1
  | .turned _ _ x => x.dp + 1
  | .later _ x => x.dp + 1
  | .often _ _ x => x.dp + 1
  | .ite _ x y => max x.dp y.dp + 1
  | .when _ x => x.dp + 1
  | .till _ x => x.dp + 1
def DrawTo (K : PySem.W.Frag) (a : Addr) (m : Mem) (Q : KM) (C : Dr → List Str → D → Prop) : Prop := ∃ s nms, DrI K m a s ∧ DrN m s nms ∧ DrB s ∧
  ∀ d s', C s nms d → s.nx s' → DrI K (mput m a s'.o) a s' → Q d (mput m a s'.o)
theorem DrawTo.mkS {K : PySem.W.Frag} {m M : Mem} {Q : KM} {a : Addr} {s : Dr} {nms : List Str} {C : Dr → List Str → D → Prop} (S : DrS K m a nms s M) (B : DrB s)
    (q : ∀ d s', C s nms d → s.nx s' → DrS K m a nms s' (mput M a s'.o) → Q d (mput M a s'.o)) : DrawTo K a M Q C := ⟨s, nms, S.I, S.N, B, fun d s' c n I => q d s' c n (S.on n I)⟩
def spSides (K : PySem.W.Frag) : SpM := fun ds m Q _ => ∃ a, ds = [.ref a] ∧ DrawTo K a m Q fun s _ d => ∃ x y, sidesOf (wordOf s) x y ∧ d = .tup [.str x, .str y]
def spGood (K : PySem.W.Frag) : SpM := fun ds m Q _ => ∃ a, ds = [.ref a] ∧ DrawTo K a m Q fun s _ d => ∃ x, goodOf (wordOf s) x ∧ d = .str x
def Con.gv : Con → Prop
  | .give _ _ _ _ => True
  | _ => False
def spGive (K : PySem.W.Frag) : SpM := fun ds m Q _ => ∃ a, ds = [.ref a] ∧ DrawTo K a m Q fun s nms d => ∃ c : Con, c.of (wordOf s) nms ∧ (c.dp = 0 ∧ c.gv) ∧ d = c.d
def spCon (K : PySem.W.Frag) (n : Nat) : SpM := fun ds m Q _ => ∃ (a : Addr) (dp : Nat), ds = [.ref a, .int dp] ∧ dp < n ∧ DrawTo K a m Q fun s nms d => ∃ c : Con, c.of (wordOf s) nms ∧ c.dp ≤ dp ∧ d = c.d
abbrev s__law_sides : Stmt := topS 42
theorem sc__law_sides : FnScope ["_law_s", "_law_many", "_law_one", "_law_other"] ["_law_s"] (defScope s__law_sides) := ⟨rfl, rfl, rfl, by decide +kernel, rfl, by decide +kernel, by decide +kernel⟩
theorem ok_law_sides {k : Nat} (Z : Bl mg) {f__law_taken : Addr} {fd__law_taken : FuncData} (D__law_taken : Df K mg "_law_taken" f__law_taken fd__law_taken ["_law_s", "_law_most"]) (G__law_taken : FnM P w K mg base CX0 (k) f__law_taken fd__law_taken ["_law_s", "_law_most"] (spTaken K)) {f__law_word : Addr} {fd__law_word : FuncData} (D__law_word : Df K mg "_law_word" f__law_word fd__law_word ["_law_s", "_law_k"]) (G__law_word : FnM P w K mg base CX0 (k) f__law_word fd__law_word ["_law_s", "_law_k"] (spWord K)) {f__law_sides : Addr} {fd__law_sides : FuncData} (F : Fun K "_law_sides" "_law_sides" s__law_sides f__law_sides fd__law_sides) : FnM P w K mg base CX0 (k + 1) f__law_sides fd__law_sides ["_law_s"] (spSides K) := by
  refine fn_m F sc__law_sides (fun ds m Q E h => ?_) (fun cdv A outer s H ds m Q E E' hr h => ?_)
  · obtain ⟨a, rfl, _⟩ := h; rfl
  have nd := sc__law_sides.nd
  obtain ⟨a, rfl, s, nms, I, N, B, q⟩ := h
  have S := DrS.start I N
  refine ⟨_, (mss_cons (ms_set (i := 1) nd rfl (.inl rfl) (mx_ix (mi_sub hr) (mx_lst (ma_cons mx_int (ma_cons mx_int (ma_cons mx_int ma_nil)))) (mx_call (Em := noX) G__law_taken hr D__law_taken.m D__law_taken.k D__law_taken.b pass0M (ma_cons (mv 0) (ma_cons mx_int ma_nil)))))
    (mss_cons (ms_set (i := 2) nd rfl (.inl rfl) (mx_call (Em := noX) G__law_taken hr D__law_taken.m D__law_taken.k D__law_taken.b pass0M (ma_cons (mv 0) (ma_cons (mv 1) ma_nil))))
    (mss_cons (ms_set (i := 3) nd rfl (.inl rfl) (mx_op mo_mod (mx_op mo_plus (mx_op mo_plus (mv 2) mx_int) (mx_call (Em := noX) G__law_taken hr D__law_taken.m D__law_taken.k D__law_taken.b pass0M (ma_cons (mv 0) (ma_cons (mx_op mo_sub (mv 1) mx_int) ma_nil)))) (mv 1)))
    (mss_one (ms_ret (mx_tup (ma_cons (mx_call (Em := noX) G__law_word hr D__law_word.m D__law_word.k D__law_word.b pass0M (ma_cons (mv 0) (ma_cons (mv 2) ma_nil))) (ma_cons (mx_call (Em := noX) G__law_word hr D__law_word.m D__law_word.k D__law_word.b pass0M (ma_cons (mv 0) (ma_cons (mv 3) ma_nil))) ma_nil)))))))), ?_⟩
  wtm_at "go"
  intro p hp
  have S0 := S.new (o := .lst [.int 3, .int 3, .int 4]) hp
  wtm_at "go"
  refine spTaken.mkS S0 (by decide) (by decide) fun i s1 h0 h1 n1 S1 => ?_
  wtm_at "go"
  obtain ⟨mm, hm, hm1, hm2⟩ : ∃ mm : Int, atI [D.int 3, .int 3, .int 4] i = some (.int mm) ∧ 3 ≤ mm ∧ mm ≤ 4 := by
    have : i = 0 ∨ i = 1 ∨ i = 2 := by omega
    rcases this with rfl | rfl | rfl
    · exact ⟨3, rfl, by decide, by decide⟩
    · exact ⟨3, rfl, by decide, by decide⟩
    · exact ⟨4, rfl, by decide, by decide⟩
  have nap : p ≠ a := fun z => by rw [z, I.e] at hp; cases hp
  refine i_subL (rd_L (by rw [mput_ne nap]; exact mput_same)) hm ?_
  wtm_at "go"
  refine spTaken.mkS S1 (by omega) (by omega) fun j s2 j0 j1 n2 S2 => ?_
  wtm_at "go"
  refine spTaken.mkS S2 (by omega) (by omega) fun l s3 l0 l1 n3 S3 => ?_
  wtm_at "go"
  have n13 := Dr.nx_trans n1 (Dr.nx_trans n2 n3)
  have B3 := B.nx n13
  have k0 : 0 ≤ (j + 1 + l) % mm := Int.emod_nonneg _ (by omega)
  have k1 : (j + 1 + l) % mm < mm := Int.emod_lt_of_pos _ (by omega)
  refine spWord.mkS S3 B3 j0 ?_
  wtm_at "go"
  refine spWord.mkS S3 B3 k0 ?_
  wtm_at "go"
  refine RtM.sub S3.S (q _ s3 ⟨_, _, ⟨j, (j + 1 + l) % mm, j0, by omega, k0, by omega, ?_, rfl, rfl⟩, ?_⟩ n13 S3.J)
  · intro e
    have hd := Int.emod_add_mul_ediv (j + 1 + l) mm
    rcases (by omega : (j + 1 + l) / mm = 0 ∨ (j + 1 + l) / mm ≠ 0) with z | z
    · rw [z] at hd; omega
    · have : j + 1 + l < mm + mm := by omega
      have z2 : (j + 1 + l) / mm = 1 := by
        have a1 : (j + 1 + l) / mm < 2 := Int.ediv_lt_of_lt_mul (by omega) (by omega)
        have a2 : 0 ≤ (j + 1 + l) / mm := Int.ediv_nonneg (by omega) (by omega)
        omega
      rw [z2] at hd; omega
  · rw [wordOf_nx n13]
abbrev s__law_good : Stmt := topS 43
theorem sc__law_good : FnScope ["_law_s"] ["_law_s"] (defScope s__law_good) := ⟨rfl, rfl, rfl, by decide +kernel, rfl, by decide +kernel, by decide +kernel⟩
theorem ok_law_good {k : Nat} (Z : Bl mg) {f__law_taken : Addr} {fd__law_taken : FuncData} (D__law_taken : Df K mg "_law_taken" f__law_taken fd__law_taken ["_law_s", "_law_most"]) (G__law_taken : FnM P w K mg base CX0 (k) f__law_taken fd__law_taken ["_law_s", "_law_most"] (spTaken K)) {f__law_word : Addr} {fd__law_word : FuncData} (D__law_word : Df K mg "_law_word" f__law_word fd__law_word ["_law_s", "_law_k"]) (G__law_word : FnM P w K mg base CX0 (k) f__law_word fd__law_word ["_law_s", "_law_k"] (spWord K)) {f__law_good : Addr} {fd__law_good : FuncData} (F : Fun K "_law_good" "_law_good" s__law_good f__law_good fd__law_good) : FnM P w K mg base CX0 (k + 1) f__law_good fd__law_good ["_law_s"] (spGood K) := by
  refine fn_m F sc__law_good (fun ds m Q E h => ?_) (fun cdv A outer s H ds m Q E E' hr h => ?_)
  · obtain ⟨a, rfl, _⟩ := h; rfl
  have nd := sc__law_good.nd
  obtain ⟨a, rfl, s, nms, I, N, B, q⟩ := h
  have S := DrS.start I N
  refine ⟨_, (mss_one (ms_ret (mx_call (Em := noX) G__law_word hr D__law_word.m D__law_word.k D__law_word.b pass0M (ma_cons (mv 0) (ma_cons (mx_op mo_plus mx_int (mx_call (Em := noX) G__law_taken hr D__law_taken.m D__law_taken.k D__law_taken.b pass0M (ma_cons (mv 0) (ma_cons (mx_ix (mi_sub hr) (mx_lst (ma_cons mx_int (ma_cons mx_int (ma_cons mx_int ma_nil)))) (mx_call (Em := noX) G__law_taken hr D__law_taken.m D__law_taken.k D__law_taken.b pass0M (ma_cons (mv 0) (ma_cons mx_int ma_nil)))) ma_nil)))) ma_nil))))), ?_⟩
  wtm_at "go"
  intro p hp
  have S0 := S.new (o := .lst [.int 2, .int 2, .int 4]) hp
  wtm_at "go"
  refine spTaken.mkS S0 (by decide) (by decide) fun i s1 h0 h1 n1 S1 => ?_
  wtm_at "go"
  obtain ⟨mm, hm, hm1, hm2⟩ : ∃ mm : Int, atI [D.int 2, .int 2, .int 4] i = some (.int mm) ∧ 2 ≤ mm ∧ mm ≤ 4 := by
    have : i = 0 ∨ i = 1 ∨ i = 2 := by omega
    rcases this with rfl | rfl | rfl
    · exact ⟨2, rfl, by decide, by decide⟩
    · exact ⟨2, rfl, by decide, by decide⟩
    · exact ⟨4, rfl, by decide, by decide⟩
  have nap : p ≠ a := fun z => by rw [z, I.e] at hp; cases hp
  refine i_subL (rd_L (by rw [mput_ne nap]; exact mput_same)) hm ?_
  wtm_at "go"
  refine spTaken.mkS S1 (by omega) (by omega) fun j s2 j0 j1 n2 S2 => ?_
  wtm_at "go"
  have n12 := Dr.nx_trans n1 n2
  refine spWord.mkS S2 (B.nx n12) (by omega) ?_
  exact RtM.sub S2.S (q _ s2 ⟨_, ⟨4 + j, by omega, by omega, rfl⟩, by rw [wordOf_nx n12]⟩ n12 S2.J)
abbrev s__law_give : Stmt := topS 44
theorem sc__law_give : FnScope ["_law_s", "_law_one", "_law_other", "_law_good_here"] ["_law_s"] (defScope s__law_give) := ⟨rfl, rfl, rfl, by decide +kernel, rfl, by decide +kernel, by decide +kernel⟩
theorem ok_law_give {k : Nat} (Z : Bl mg) {f__law_sides : Addr} {fd__law_sides : FuncData} (D__law_sides : Df K mg "_law_sides" f__law_sides fd__law_sides ["_law_s"]) (G__law_sides : FnM P w K mg base CX0 (k) f__law_sides fd__law_sides ["_law_s"] (spSides K)) {f__law_good : Addr} {fd__law_good : FuncData} (D__law_good : Df K mg "_law_good" f__law_good fd__law_good ["_law_s"]) (G__law_good : FnM P w K mg base CX0 (k) f__law_good fd__law_good ["_law_s"] (spGood K)) {f__law_told : Addr} {fd__law_told : FuncData} (D__law_told : Df K mg "_law_told" f__law_told fd__law_told ["_law_s", "_law_deep"]) (G__law_told : FnM P w K mg base CX0 (k) f__law_told fd__law_told ["_law_s", "_law_deep"] (spTold K 3)) {f__law_give : Addr} {fd__law_give : FuncData} (F : Fun K "_law_give" "_law_give" s__law_give f__law_give fd__law_give) : FnM P w K mg base CX0 (k + 1) f__law_give fd__law_give ["_law_s"] (spGive K) := by
  refine fn_m F sc__law_give (fun ds m Q E h => ?_) (fun cdv A outer s H ds m Q E E' hr h => ?_)
  · obtain ⟨a, rfl, _⟩ := h; rfl
  have nd := sc__law_give.nd
  obtain ⟨a, rfl, s, nms, I, N, B, q⟩ := h
  have S := DrS.start I N
  refine ⟨_, (mss_cons (ms_asg (mx_call (Em := noX) G__law_sides hr D__law_sides.m D__law_sides.k D__law_sides.b pass0M (ma_cons (mv 0) ma_nil)) (mg_tup rfl (mgs_cons (mg_name (i := 1) nd rfl (.inl rfl)) (mgs_cons (mg_name (i := 2) nd rfl (.inl rfl)) mgs_nil))))
    (mss_cons (ms_set (i := 3) nd rfl (.inl rfl) (mx_call (Em := noX) G__law_good hr D__law_good.m D__law_good.k D__law_good.b pass0M (ma_cons (mv 0) ma_nil)))
    (mss_one (ms_ret (mx_tup (ma_cons mx_str (ma_cons (mv 1) (ma_cons (mv 2) (ma_cons (mv 3) (ma_cons (mx_call (Em := noX) G__law_told hr D__law_told.m D__law_told.k D__law_told.b pass0M (ma_cons (mv 0) (ma_cons mx_int ma_nil))) ma_nil)))))))))), ?_⟩
  wtm_at "go"
  refine ⟨a, rfl, DrawTo.mkS S B ?_⟩
  rintro d s1 ⟨x, y, hxy, rfl⟩ n1 S1
  wtm_at "go"
  have B1 := B.nx n1
  refine ⟨a, rfl, DrawTo.mkS S1 B1 ?_⟩
  rintro d s2 ⟨g, hg, rfl⟩ n2 S2
  wtm_at "go"
  refine spTold.mkS (dp := 2) S2 rfl (by omega) fun t s3 td tof n3 S3 => ?_
  wtm_at "go"
  rw [wordOf_nx n1] at hg
  exact RtM.sub S3.S (q _ s3 ⟨.give x y g t, ⟨hxy, hg, tof, td⟩, ⟨rfl, trivial⟩, rfl⟩ (Dr.nx_trans n1 (Dr.nx_trans n2 n3)) S3.J)
theorem spCon.mkS {K : PySem.W.Frag} {m M : Mem} {Q : KM} {Em : XM} {a : Addr} {s : Dr} {nms : List Str} {n dp : Nat} {x : Int} (S : DrS K m a nms s M) (B : DrB s) (e : x = dp) (h : dp < n)
    (q : ∀ (c : Con) s', c.of (wordOf s) nms → c.dp ≤ dp → s.nx s' → DrS K m a nms s' (mput M a s'.o) → Q c.d (mput M a s'.o)) : spCon K n [.ref a, .int x] M Q Em :=
  ⟨a, dp, by rw [e], h, DrawTo.mkS S B fun d s' ⟨c, h1, h2, e⟩ n1 S1 => by rw [e]; exact q c s' h1 h2 n1 S1⟩
theorem spSides.mkS {K : PySem.W.Frag} {m M : Mem} {Q : KM} {Em : XM} {a : Addr} {s : Dr} {nms : List Str} (S : DrS K m a nms s M) (B : DrB s)
    (q : ∀ x y s', sidesOf (wordOf s) x y → s.nx s' → DrS K m a nms s' (mput M a s'.o) → Q (.tup [.str x, .str y]) (mput M a s'.o)) : spSides K [.ref a] M Q Em :=
  ⟨a, rfl, DrawTo.mkS S B fun d s' ⟨x, y, h1, e⟩ n1 S1 => by rw [e]; exact q x y s' h1 n1 S1⟩
theorem spGood.mkS {K : PySem.W.Frag} {m M : Mem} {Q : KM} {Em : XM} {a : Addr} {s : Dr} {nms : List Str} (S : DrS K m a nms s M) (B : DrB s)
    (q : ∀ x s', goodOf (wordOf s) x → s.nx s' → DrS K m a nms s' (mput M a s'.o) → Q (.str x) (mput M a s'.o)) : spGood K [.ref a] M Q Em :=
  ⟨a, rfl, DrawTo.mkS S B fun d s' ⟨x, h1, e⟩ n1 S1 => by rw [e]; exact q x s' h1 n1 S1⟩
abbrev s__law_contract : Stmt := topS 45
theorem sc__law_contract : FnScope ["_law_s", "_law_deep", "_law_way", "_law_one", "_law_hours", "_law_many", "_law_asked_here"] ["_law_s", "_law_deep"] (defScope s__law_contract) := ⟨rfl, rfl, rfl, by decide +kernel, rfl, by decide +kernel, by decide +kernel⟩
theorem ok_law_contract {k n : Nat} (Z : Bl mg) {f__law_taken : Addr} {fd__law_taken : FuncData} (D__law_taken : Df K mg "_law_taken" f__law_taken fd__law_taken ["_law_s", "_law_most"]) (G__law_taken : FnM P w K mg base CX0 (k) f__law_taken fd__law_taken ["_law_s", "_law_most"] (spTaken K)) {f__law_give : Addr} {fd__law_give : FuncData} (D__law_give : Df K mg "_law_give" f__law_give fd__law_give ["_law_s"]) (G__law_give : FnM P w K mg base CX0 (k) f__law_give fd__law_give ["_law_s"] (spGive K)) {f__law_sides : Addr} {fd__law_sides : FuncData} (D__law_sides : Df K mg "_law_sides" f__law_sides fd__law_sides ["_law_s"]) (G__law_sides : FnM P w K mg base CX0 (k) f__law_sides fd__law_sides ["_law_s"] (spSides K)) {f__law_asked : Addr} {fd__law_asked : FuncData} (D__law_asked : Df K mg "_law_asked" f__law_asked fd__law_asked ["_law_s", "_law_deep"]) (G__law_asked : FnM P w K mg base CX0 (k) f__law_asked fd__law_asked ["_law_s", "_law_deep"] (spAsked K 3)) {f__law_contract : Addr} {fd__law_contract : FuncData} (D__law_contract : Df K mg "_law_contract" f__law_contract fd__law_contract ["_law_s", "_law_deep"]) (G__law_contract : FnM P w K mg base CX0 (k) f__law_contract fd__law_contract ["_law_s", "_law_deep"] (spCon K n)) (F : Fun K "_law_contract" "_law_contract" s__law_contract f__law_contract fd__law_contract) : FnM P w K mg base CX0 (k + 1) f__law_contract fd__law_contract ["_law_s", "_law_deep"] (spCon K (n + 1)) := by
  refine fn_m F sc__law_contract (fun ds m Q E h => ?_) (fun cdv A outer s H ds m Q E E' hr h => ?_)
  · obtain ⟨a, dp, rfl, _⟩ := h; rfl
  have nd := sc__law_contract.nd
  obtain ⟨a, dp, rfl, hd, s, nms, I, N, B, q⟩ := h
  have S := DrS.start I N
  refine ⟨_, (mss_cons (ms_set (i := 2) nd rfl (.inl rfl) (mx_call (Em := noX) G__law_taken hr D__law_taken.m D__law_taken.k D__law_taken.b pass0M (ma_cons (mv 0) (ma_cons mx_int ma_nil))))
    (mss_cons (ms_if (mw_pt (mw_or (mt_cmp (mo_eqq hr) (mv 1) mx_int (nomark _)) (mw_or1 (mt_cmp mo_lt (mv 2) mx_int (nomark _))))) (mss_one (ms_ret (mx_call (Em := noX) G__law_give hr D__law_give.m D__law_give.k D__law_give.b pass0M (ma_cons (mv 0) ma_nil)))) mss_nil)
    (mss_cons (ms_if (mt_cmp (mo_eqq hr) (mv 2) mx_int (nomark _)) (mss_one (ms_ret (mx_tup (ma_cons mx_str ma_nil)))) mss_nil)
    (mss_cons (ms_if (mt_cmp mo_lt (mv 2) mx_int (nomark _)) (mss_cons (ms_set (i := 3) nd rfl (.inl rfl) (mx_call (Em := noX) G__law_contract hr D__law_contract.m D__law_contract.k D__law_contract.b pass0M (ma_cons (mv 0) (ma_cons (mx_op mo_sub (mv 1) mx_int) ma_nil))))
    (mss_one (ms_ret (mx_tup (ma_cons mx_str (ma_cons (mv 3) (ma_cons (mx_call (Em := noX) G__law_contract hr D__law_contract.m D__law_contract.k D__law_contract.b pass0M (ma_cons (mv 0) (ma_cons (mx_op mo_sub (mv 1) mx_int) ma_nil))) ma_nil))))))) mss_nil)
    (mss_cons (ms_if (mt_cmp (mo_eqq hr) (mv 2) mx_int (nomark _)) (mss_one (ms_ret (mx_op mo_plus (mx_op mo_plus (mx_tup (ma_cons mx_str ma_nil)) (mx_call (Em := noX) G__law_sides hr D__law_sides.m D__law_sides.k D__law_sides.b pass0M (ma_cons (mv 0) ma_nil))) (mx_tup (ma_cons (mx_call (Em := noX) G__law_contract hr D__law_contract.m D__law_contract.k D__law_contract.b pass0M (ma_cons (mv 0) (ma_cons (mx_op mo_sub (mv 1) mx_int) ma_nil))) ma_nil))))) mss_nil)
    (mss_cons (ms_if (mt_cmp (mo_eqq hr) (mv 2) mx_int (nomark _)) (mss_cons (ms_set (i := 4) nd rfl (.inl rfl) (mx_ix (mi_sub hr) (mx_lst (ma_cons (mx_call (Em := noX) G__law_taken hr D__law_taken.m D__law_taken.k D__law_taken.b pass0M (ma_cons (mv 0) (ma_cons mx_int ma_nil))) (ma_cons (mx_call (Em := noX) G__law_taken hr D__law_taken.m D__law_taken.k D__law_taken.b pass0M (ma_cons (mv 0) (ma_cons mx_int ma_nil))) ma_nil))) (mx_callTy mc_int1 Z.b_int (ma_cons (mx_cmp (mo_eqq hr) (mx_call (Em := noX) G__law_taken hr D__law_taken.m D__law_taken.k D__law_taken.b pass0M (ma_cons (mv 0) (ma_cons mx_int ma_nil))) mx_int (nomark _)) ma_nil))))
    (mss_one (ms_ret (mx_tup (ma_cons mx_str (ma_cons (mv 4) (ma_cons (mx_call (Em := noX) G__law_contract hr D__law_contract.m D__law_contract.k D__law_contract.b pass0M (ma_cons (mv 0) (ma_cons (mx_op mo_sub (mv 1) mx_int) ma_nil))) ma_nil))))))) mss_nil)
    (mss_cons (ms_if (mt_cmp (mo_eqq hr) (mv 2) mx_int (nomark _)) (mss_cons (ms_set (i := 5) nd rfl (.inl rfl) (mx_ix (mi_sub hr) (mx_lst (ma_cons (mx_op mo_plus mx_int (mx_call (Em := noX) G__law_taken hr D__law_taken.m D__law_taken.k D__law_taken.b pass0M (ma_cons (mv 0) (ma_cons mx_int ma_nil)))) (ma_cons (mx_op mo_plus mx_int (mx_call (Em := noX) G__law_taken hr D__law_taken.m D__law_taken.k D__law_taken.b pass0M (ma_cons (mv 0) (ma_cons mx_int ma_nil)))) ma_nil))) (mx_callTy mc_int1 Z.b_int (ma_cons (mx_cmp (mo_eqq hr) (mx_call (Em := noX) G__law_taken hr D__law_taken.m D__law_taken.k D__law_taken.b pass0M (ma_cons (mv 0) (ma_cons mx_int ma_nil))) mx_int (nomark _)) ma_nil))))
    (mss_one (ms_ret (mx_tup (ma_cons mx_str (ma_cons (mv 5) (ma_cons (mx_op mo_plus mx_int (mx_call (Em := noX) G__law_taken hr D__law_taken.m D__law_taken.k D__law_taken.b pass0M (ma_cons (mv 0) (ma_cons mx_int ma_nil)))) (ma_cons (mx_call (Em := noX) G__law_contract hr D__law_contract.m D__law_contract.k D__law_contract.b pass0M (ma_cons (mv 0) (ma_cons (mx_op mo_sub (mv 1) mx_int) ma_nil))) ma_nil)))))))) mss_nil)
    (mss_cons (ms_set (i := 6) nd rfl (.inl rfl) (mx_call (Em := noX) G__law_asked hr D__law_asked.m D__law_asked.k D__law_asked.b pass0M (ma_cons (mv 0) (ma_cons mx_int ma_nil))))
    (mss_cons (ms_if (mt_cmp (mo_eqq hr) (mv 2) mx_int (nomark _)) (mss_cons (ms_set (i := 3) nd rfl (.inl rfl) (mx_call (Em := noX) G__law_contract hr D__law_contract.m D__law_contract.k D__law_contract.b pass0M (ma_cons (mv 0) (ma_cons (mx_op mo_sub (mv 1) mx_int) ma_nil))))
    (mss_one (ms_ret (mx_tup (ma_cons mx_str (ma_cons (mv 6) (ma_cons (mv 3) (ma_cons (mx_call (Em := noX) G__law_contract hr D__law_contract.m D__law_contract.k D__law_contract.b pass0M (ma_cons (mv 0) (ma_cons (mx_op mo_sub (mv 1) mx_int) ma_nil))) ma_nil)))))))) mss_nil)
    (mss_one (ms_ret (mx_tup (ma_cons (mx_ix (mi_sub hr) (mx_lst (ma_cons mx_str (ma_cons mx_str ma_nil))) (mx_op mo_sub (mv 2) mx_int)) (ma_cons (mv 6) (ma_cons (mx_call (Em := noX) G__law_contract hr D__law_contract.m D__law_contract.k D__law_contract.b pass0M (ma_cons (mv 0) (ma_cons (mx_op mo_sub (mv 1) mx_int) ma_nil))) ma_nil))))))))))))))), ?_⟩
  wtm_at "go"
  refine spTaken.mkS S (by decide) (by decide) fun way s1 h0 h1 n1 S1 => ?_
  have B1 := B.nx n1
  have w1 := wordOf_nx n1
  have fin : ∀ (c : Con) (s' : Dr) (M : Mem), c.of (wordOf s) nms → c.dp ≤ dp → s.nx s' → DrS K m a nms s' M → RtM Q c.d M := fun c s' M h1 h2 n S => RtM.sub S.S (q _ s' ⟨c, h1, h2, rfl⟩ n S.J)
  clear q
  wtm_at "go"
  refine i_ite (fun c0 => ?_) (fun c0 => ?_)
  · -- deep is 0
    wtm_at "go"
    refine ⟨a, rfl, DrawTo.mkS S1 B1 ?_⟩
    rintro d s2 ⟨c, hc, hdp, rfl⟩ n2 S2
    rw [w1] at hc
    exact fin c s2 _ hc (by omega) (Dr.nx_trans n1 n2) S2
  have d0 : ¬ (dp : Int) = 0 := of_decide_eq_false c0
  have ed : (dp : Int) - 1 = ((dp - 1 : Nat) : Int) := by omega
  wtm_at "go"
  refine i_ite (fun c1 => ?_) (fun c1 => ?_)
  · wtm_at "go"
    refine ⟨a, rfl, DrawTo.mkS S1 B1 ?_⟩
    rintro d s2 ⟨c, hc, hdp, rfl⟩ n2 S2
    rw [w1] at hc
    exact fin c s2 _ hc (by omega) (Dr.nx_trans n1 n2) S2
  have g1 : ¬ way < 3 := of_decide_eq_false c1
  wtm_at "go"
  refine i_ite (fun c2 => ?_) (fun c2 => ?_)
  · wtm_at "go"
    exact fin .no s1 _ trivial (Nat.zero_le _) n1 S1
  have g2 : ¬ way = 3 := of_decide_eq_false c2
  wtm_at "go"
  refine i_ite (fun c3 => ?_) (fun c3 => ?_)
  · wtm_at "go"
    refine spCon.mkS S1 B1 ed (by omega) fun x s2 hx dx n2 S2 => ?_
    rw [w1] at hx
    have n12 := Dr.nx_trans n1 n2
    wtm_at "go"
    refine spCon.mkS S2 (B.nx n12) ed (by omega) fun y s3 hy dy n3 S3 => ?_
    rw [wordOf_nx n12] at hy
    wtm_at "go"
    exact fin (.both x y) s3 _ ⟨hx, hy⟩ (by show max x.dp y.dp + 1 ≤ dp; omega) (Dr.nx_trans n12 n3) S3
  have g3 : ¬ way < 6 := of_decide_eq_false c3
  wtm_at "go"
  refine i_ite (fun c4 => ?_) (fun c4 => ?_)
  · wtm_at "go"
    refine spSides.mkS S1 B1 fun x y s2 hxy n2 S2 => ?_
    rw [w1] at hxy
    have n12 := Dr.nx_trans n1 n2
    wtm_at "go"
    refine spCon.mkS S2 (B.nx n12) ed (by omega) fun z s3 hz dz n3 S3 => ?_
    rw [wordOf_nx n12] at hz
    wtm_at "go"
    exact fin (.turned x y z) s3 _ ⟨hxy, hz⟩ (by show z.dp + 1 ≤ dp; omega) (Dr.nx_trans n12 n3) S3
  have g4 : ¬ way = 6 := of_decide_eq_false c4
  wtm_at "go"
  refine i_ite (fun c5 => ?_) (fun c5 => ?_)
  · wtm_at "go"
    refine spTaken.mkS S1 (by decide) (by decide) fun u s2 u0 u1 n2 S2 => ?_
    wtm_at "go"
    refine spTaken.mkS S2 (by decide) (by decide) fun v s3 v0 v1 n3 S3 => ?_
    wtm_at "go"
    intro p hp
    have S4 := S3.new (o := .lst [.int u, .int v]) hp
    wtm_at "go"
    refine spTaken.mkS S4 (by decide) (by decide) fun t s4 t0 t1 n4 S5 => ?_
    wtm_at "go"
    have n14 := Dr.nx_trans n1 (Dr.nx_trans n2 (Dr.nx_trans n3 n4))
    have nap : p ≠ a := fun z => by rw [z, S3.e] at hp; cases hp
    obtain ⟨hh, eh, z0, z1⟩ : ∃ hh : Int, atI [D.int u, .int v] (if decide (t = 7) = true then 1 else 0) = some (.int hh) ∧ 0 ≤ hh ∧ hh ≤ 99 := by
      by_cases c : t = 7
      · rw [decide_eq_true c]; exact ⟨v, rfl, v0, by omega⟩
      · rw [decide_eq_false c]; exact ⟨u, rfl, u0, by omega⟩
    refine i_subL (rd_L (by rw [mput_ne nap]; exact mput_same)) eh ?_
    wtm_at "go"
    refine spCon.mkS S5 (B.nx n14) ed (by omega) fun z s5 hz dz n5 S6 => ?_
    rw [wordOf_nx n14] at hz
    wtm_at "go"
    exact fin (.later hh z) s5 _ ⟨⟨z0, z1⟩, hz⟩ (by show z.dp + 1 ≤ dp; omega) (Dr.nx_trans n14 n5) S6
  have g5 : ¬ way = 7 := of_decide_eq_false c5
  wtm_at "go"
  refine i_ite (fun c6 => ?_) (fun c6 => ?_)
  · wtm_at "go"
    refine spTaken.mkS S1 (by decide) (by decide) fun u s2 u0 u1 n2 S2 => ?_
    wtm_at "go"
    refine spTaken.mkS S2 (by decide) (by decide) fun v s3 v0 v1 n3 S3 => ?_
    wtm_at "go"
    intro p hp
    have S4 := S3.new (o := .lst [.int (1 + u), .int (1 + v)]) hp
    wtm_at "go"
    refine spTaken.mkS S4 (by decide) (by decide) fun t s4 t0 t1 n4 S5 => ?_
    wtm_at "go"
    have n14 := Dr.nx_trans n1 (Dr.nx_trans n2 (Dr.nx_trans n3 n4))
    have nap : p ≠ a := fun z => by rw [z, S3.e] at hp; cases hp
    obtain ⟨hh, eh, z0, z1⟩ : ∃ hh : Int, atI [D.int (1 + u), .int (1 + v)] (if decide (t = 7) = true then 1 else 0) = some (.int hh) ∧ 1 ≤ hh ∧ hh ≤ 9 := by
      by_cases c : t = 7
      · rw [decide_eq_true c]; exact ⟨1 + v, rfl, by omega, by omega⟩
      · rw [decide_eq_false c]; exact ⟨1 + u, rfl, by omega, by omega⟩
    refine i_subL (rd_L (by rw [mput_ne nap]; exact mput_same)) eh ?_
    wtm_at "go"
    refine spTaken.mkS S5 (by decide) (by decide) fun st s5 st0 st1 n5 S6 => ?_
    have n15 := Dr.nx_trans n14 n5
    wtm_at "go"
    refine spCon.mkS S6 (B.nx n15) ed (by omega) fun z s6 hz dz n6 S7 => ?_
    rw [wordOf_nx n15] at hz
    wtm_at "go"
    exact fin (.often hh (1 + st) z) s6 _ ⟨⟨z0, z1, by omega, by omega⟩, hz⟩ (by show z.dp + 1 ≤ dp; omega) (Dr.nx_trans n15 n6) S7
  have g6 : ¬ way = 8 := of_decide_eq_false c6
  wtm_at "go"
  refine spAsked.mkS (dp := 2) S1 rfl (by omega) fun t s2 d2 td2 o2 n2 S2 => ?_
  have n12 := Dr.nx_trans n1 n2
  wtm_at "go"
  refine i_ite (fun c7 => ?_) (fun c7 => ?_)
  · wtm_at "go"
    refine spCon.mkS S2 (B.nx n12) ed (by omega) fun x s3 hx dx n3 S3 => ?_
    rw [wordOf_nx n12] at hx
    have n13 := Dr.nx_trans n12 n3
    wtm_at "go"
    refine spCon.mkS S3 (B.nx n13) ed (by omega) fun y s4 hy dy n4 S4 => ?_
    rw [wordOf_nx n13] at hy
    wtm_at "go"
    exact fin (.ite t x y) s4 _ ⟨⟨o2, d2, td2⟩, hx, hy⟩ (by show max x.dp y.dp + 1 ≤ dp; omega) (Dr.nx_trans n13 n4) S4
  have g7 : ¬ way = 9 := of_decide_eq_false c7
  wtm_at "go"
  intro p hp
  have S3 := S2.new (o := .lst [.str (Str.ofString "when"), .str (Str.ofString "until")]) hp
  wtm_at "go"
  obtain ⟨wd, mk, hj, e1, e2, e3⟩ : ∃ (wd : Str) (mk : Asked → Con → Con), atI [D.str (Str.ofString "when"), .str (Str.ofString "until")] (way - 10) = some (.str wd) ∧ (∀ x y, (mk x y).d = .tup [.str wd, x.d, y.d]) ∧ (∀ x y, (mk x y).dp = y.dp + 1) ∧
      (∀ x y wd nms, (x.of nms ∧ x.dp ≤ 2 ∧ x.td ≤ 1) → y.of wd nms → (mk x y).of wd nms) := by
    have : way = 10 ∨ way = 11 := by omega
    rcases this with rfl | rfl
    · exact ⟨"when", .when, rfl, fun _ _ => rfl, fun _ _ => rfl, fun _ _ _ _ a b => ⟨a, b⟩⟩
    · exact ⟨"until", .till, rfl, fun _ _ => rfl, fun _ _ => rfl, fun _ _ _ _ a b => ⟨a, b⟩⟩
  refine i_subL (rd_L mput_same) hj ?_
  wtm_at "go"
  refine spCon.mkS S3 (B.nx n12) ed (by omega) fun x s4 hx dx n4 S4 => ?_
  rw [wordOf_nx n12] at hx
  wtm_at "go"
  rw [← e1]
  exact fin (mk t x) s4 _ (e3 _ _ _ _ ⟨o2, d2, td2⟩ hx) (by rw [e2]; omega) (Dr.nx_trans n12 n4) S4
theorem fin_law_contract {c : Nat} (Z : Bl mg) {f__law_taken : Addr} {fd__law_taken : FuncData} (D__law_taken : Df K mg "_law_taken" f__law_taken fd__law_taken ["_law_s", "_law_most"]) (G__law_taken : FnM P w K mg base CX0 (c) f__law_taken fd__law_taken ["_law_s", "_law_most"] (spTaken K)) {f__law_give : Addr} {fd__law_give : FuncData} (D__law_give : Df K mg "_law_give" f__law_give fd__law_give ["_law_s"]) (G__law_give : FnM P w K mg base CX0 (c) f__law_give fd__law_give ["_law_s"] (spGive K)) {f__law_sides : Addr} {fd__law_sides : FuncData} (D__law_sides : Df K mg "_law_sides" f__law_sides fd__law_sides ["_law_s"]) (G__law_sides : FnM P w K mg base CX0 (c) f__law_sides fd__law_sides ["_law_s"] (spSides K)) {f__law_asked : Addr} {fd__law_asked : FuncData} (D__law_asked : Df K mg "_law_asked" f__law_asked fd__law_asked ["_law_s", "_law_deep"]) (G__law_asked : FnM P w K mg base CX0 (c) f__law_asked fd__law_asked ["_law_s", "_law_deep"] (spAsked K 3)) {f__law_contract : Addr} {fd__law_contract : FuncData} (D__law_contract : Df K mg "_law_contract" f__law_contract fd__law_contract ["_law_s", "_law_deep"]) (F : Fun K "_law_contract" "_law_contract" s__law_contract f__law_contract fd__law_contract) : ∀ n, FnM P w K mg base CX0 (c + n) f__law_contract fd__law_contract ["_law_s", "_law_deep"] (spCon K n)
  | 0 => fn_none fun ds m Q E ⟨a, dp, _, h, _⟩ => by omega
  | n + 1 => ok_law_contract Z D__law_taken (G__law_taken.mono (Nat.le_add_right c n)) D__law_give (G__law_give.mono (Nat.le_add_right c n)) D__law_sides (G__law_sides.mono (Nat.le_add_right c n)) D__law_asked (G__law_asked.mono (Nat.le_add_right c n)) D__law_contract (fin_law_contract Z D__law_taken G__law_taken D__law_give G__law_give D__law_sides G__law_sides D__law_asked G__law_asked D__law_contract F n) F
def Dr.sw (s s' : Dr) : Prop := s'.sc = s.sc ∧ s'.size = s.size ∧ s'.place = s.place ∧ s'.turn = s.turn ∧ s'.talk = s.talk
theorem Dr.nx.sw {s s' : Dr} (n : s.nx s') : s.sw s' := ⟨n.1, n.2.2.1, n.2.2.2.1, n.2.2.2.2.1, n.2.2.2.2.2⟩
theorem Dr.sw_trans {s s' s2 : Dr} (a : s.sw s') (b : s'.sw s2) : s.sw s2 := by
  obtain ⟨a1, a2, a3, a4, a5⟩ := a
  obtain ⟨b1, b2, b3, b4, b5⟩ := b
  exact ⟨b1.trans a1, b2.trans a2, b3.trans a3, b4.trans a4, b5.trans a5⟩
theorem wordOf_sw {s s' : Dr} (n : s.sw s') : wordOf s' = wordOf s := by
  obtain ⟨_, h1, h2, h3, h4⟩ := n
  funext k
  unfold wordOf
  rw [h1, h2, h3, h4]
theorem DrB.sw {s s' : Dr} (b : DrB s) (n : s.sw s') : DrB s' := by
  obtain ⟨_, h1, h2, h3, h4⟩ := n
  obtain ⟨b1, b2, b3, b4, b5, b6, b7⟩ := b
  exact ⟨by omega, by omega, by omega, by omega, by omega, by omega, by omega⟩
def namesOf (s : Dr) (n : Nat) : List Str := (List.range n).map fun j : Nat => wordOf s (8 + (j : Int))
def Con.ch : Con → Prop
  | .give _ _ _ t => t.dp ≤ 1
  | .turned _ _ x => x.ch
  | .later _ x => x.ch
  | .often n _ x => n ≤ 3 ∧ x.ch
  | .when q x => q.dp = 0 ∧ x.ch
  | .till q x => q.dp = 0 ∧ x.ch
  | _ => False
def Con.dw (c : Con) : Prop := c.dp ≤ 3 ∨ (c.dp ≤ 5 ∧ c.ch)
theorem Con.dw.dp {c : Con} (h : c.dw) : c.dp ≤ 5 := by rcases h with h | h <;> omega
def spDrawn (K : PySem.W.Frag) : SpM := fun ds m Q _ => ∃ (a : Addr) (s : Dr) (many : Nat), ds = [.ref a, .int many] ∧ many ≤ 4 ∧ DrI K m a s ∧ DrB s ∧
  ∀ (c : Con) s' m', c.of (wordOf s) (namesOf s many) → c.dw → s.sw s' → DrI K m' a s' → DrN m' s' (namesOf s many) → Kp a m m' → Q c.d m'
abbrev s__law_drawn : Stmt := topS 46
theorem sc__law_drawn : FnScope ["_law_s", "_law_many", "_law_k", "_law_contract_here", "_law_way"] ["_law_s", "_law_many"] (defScope s__law_drawn) := ⟨rfl, rfl, rfl, by decide +kernel, rfl, by decide +kernel, by decide +kernel⟩
theorem ok_law_drawn {k : Nat} (Z : Bl mg) {f__law_taken : Addr} {fd__law_taken : FuncData} (D__law_taken : Df K mg "_law_taken" f__law_taken fd__law_taken ["_law_s", "_law_most"]) (G__law_taken : FnM P w K mg base CX0 (k) f__law_taken fd__law_taken ["_law_s", "_law_most"] (spTaken K)) {f__law_word : Addr} {fd__law_word : FuncData} (D__law_word : Df K mg "_law_word" f__law_word fd__law_word ["_law_s", "_law_k"]) (G__law_word : FnM P w K mg base CX0 (k) f__law_word fd__law_word ["_law_s", "_law_k"] (spWord K)) {f__law_sides : Addr} {fd__law_sides : FuncData} (D__law_sides : Df K mg "_law_sides" f__law_sides fd__law_sides ["_law_s"]) (G__law_sides : FnM P w K mg base CX0 (k) f__law_sides fd__law_sides ["_law_s"] (spSides K)) {f__law_good : Addr} {fd__law_good : FuncData} (D__law_good : Df K mg "_law_good" f__law_good fd__law_good ["_law_s"]) (G__law_good : FnM P w K mg base CX0 (k) f__law_good fd__law_good ["_law_s"] (spGood K)) {f__law_told : Addr} {fd__law_told : FuncData} (D__law_told : Df K mg "_law_told" f__law_told fd__law_told ["_law_s", "_law_deep"]) (G__law_told : FnM P w K mg base CX0 (k) f__law_told fd__law_told ["_law_s", "_law_deep"] (spTold K 2)) {f__law_asked : Addr} {fd__law_asked : FuncData} (D__law_asked : Df K mg "_law_asked" f__law_asked fd__law_asked ["_law_s", "_law_deep"]) (G__law_asked : FnM P w K mg base CX0 (k) f__law_asked fd__law_asked ["_law_s", "_law_deep"] (spAsked K 1)) {f__law_contract : Addr} {fd__law_contract : FuncData} (D__law_contract : Df K mg "_law_contract" f__law_contract fd__law_contract ["_law_s", "_law_deep"]) (G__law_contract : FnM P w K mg base CX0 (k) f__law_contract fd__law_contract ["_law_s", "_law_deep"] (spCon K 4)) {f__law_drawn : Addr} {fd__law_drawn : FuncData} (F : Fun K "_law_drawn" "_law_drawn" s__law_drawn f__law_drawn fd__law_drawn) : FnM P w K mg base CX0 (k + 1) f__law_drawn fd__law_drawn ["_law_s", "_law_many"] (spDrawn K) := by
  refine fn_m F sc__law_drawn (fun ds m Q E h => ?_) (fun cdv A outer s H ds m Q E E' hr h => ?_)
  · obtain ⟨a, s, many, rfl, _⟩ := h; rfl
  have nd := sc__law_drawn.nd
  obtain ⟨a, s, many, rfl, hmany, I, B, q⟩ := h
  refine ⟨_, (mss_cons (ms_dput (hu1 hr) (mv 0) mx_str (mx_lc (own := [("_law_k", 2)]) rfl nd (mi_range1 Z.b_range (ma_cons (mv 1) ma_nil)) (blkOk_by (by show blkC ["_law_s", "_law_many", "_law_k", "_law_contract_here", "_law_way"] (defScope s__law_drawn) _ _ = true; decide +kernel)) (fun _ _ _ _ _ => (pg_name (i := 2) nd rfl (Or.inl rfl))) (gok_name (i := 2) (by decide)) (fun _ _ _ _ _ => mts_nil) (fun _ _ _ _ _ => (mx_call (Em := noX) G__law_word hr D__law_word.m D__law_word.k D__law_word.b pass0M (ma_cons (mv 0) (ma_cons (mx_op mo_plus mx_int (mv 2)) ma_nil))))))
    (mss_cons (ms_if (mt_cmp mo_lt (mx_call (Em := noX) G__law_taken hr D__law_taken.m D__law_taken.k D__law_taken.b pass0M (ma_cons (mv 0) (ma_cons mx_int ma_nil))) mx_int (nomark _)) (mss_one (ms_ret (mx_call (Em := noX) G__law_contract hr D__law_contract.m D__law_contract.k D__law_contract.b pass0M (ma_cons (mv 0) (ma_cons mx_int ma_nil))))) mss_nil)
    (mss_cons (ms_set (i := 3) nd rfl (.inl rfl) (mx_op mo_plus (mx_op mo_plus (mx_tup (ma_cons mx_str ma_nil)) (mx_call (Em := noX) G__law_sides hr D__law_sides.m D__law_sides.k D__law_sides.b pass0M (ma_cons (mv 0) ma_nil))) (mx_tup (ma_cons (mx_call (Em := noX) G__law_good hr D__law_good.m D__law_good.k D__law_good.b pass0M (ma_cons (mv 0) ma_nil)) (ma_cons (mx_call (Em := noX) G__law_told hr D__law_told.m D__law_told.k D__law_told.b pass0M (ma_cons (mv 0) (ma_cons mx_int ma_nil))) ma_nil)))))
    (mss_cons (ms_for PassesOwn.never rfl (mi_range1 Z.b_range (ma_cons mx_int ma_nil)) (mg_name (i := 2) nd rfl (.inl rfl)) (mss_cons (ms_set (i := 4) nd rfl (.inl rfl) (mx_call (Em := noX) G__law_taken hr D__law_taken.m D__law_taken.k D__law_taken.b pass0M (ma_cons (mv 0) (ma_cons mx_int ma_nil))))
    (mss_one (ms_if (mt_cmp (mo_eqq hr) (mv 4) mx_int (nomark _)) (mss_one (ms_set (i := 3) nd rfl (.inl rfl) (mx_tup (ma_cons mx_str (ma_cons (mx_call (Em := noX) G__law_taken hr D__law_taken.m D__law_taken.k D__law_taken.b pass0M (ma_cons (mv 0) (ma_cons mx_int ma_nil))) (ma_cons (mv 3) ma_nil)))))) (mss_one (ms_if (mt_cmp (mo_eqq hr) (mv 4) mx_int (nomark _)) (mss_one (ms_set (i := 3) nd rfl (.inl rfl) (mx_op mo_plus (mx_op mo_plus (mx_tup (ma_cons mx_str ma_nil)) (mx_call (Em := noX) G__law_sides hr D__law_sides.m D__law_sides.k D__law_sides.b pass0M (ma_cons (mv 0) ma_nil))) (mx_tup (ma_cons (mv 3) ma_nil))))) (mss_one (ms_if (mt_cmp (mo_eqq hr) (mv 4) mx_int (nomark _)) (mss_one (ms_set (i := 3) nd rfl (.inl rfl) (mx_tup (ma_cons mx_str (ma_cons (mx_op mo_plus mx_int (mx_call (Em := noX) G__law_taken hr D__law_taken.m D__law_taken.k D__law_taken.b pass0M (ma_cons (mv 0) (ma_cons mx_int ma_nil)))) (ma_cons (mx_op mo_plus mx_int (mx_call (Em := noX) G__law_taken hr D__law_taken.m D__law_taken.k D__law_taken.b pass0M (ma_cons (mv 0) (ma_cons mx_int ma_nil)))) (ma_cons (mv 3) ma_nil))))))) (mss_one (ms_set (i := 3) nd rfl (.inl rfl) (mx_tup (ma_cons (mx_ix (mi_sub hr) (mx_lst (ma_cons mx_str (ma_cons mx_str ma_nil))) (mx_op mo_sub (mv 4) mx_int)) (ma_cons (mx_call (Em := noX) G__law_asked hr D__law_asked.m D__law_asked.k D__law_asked.b pass0M (ma_cons (mv 0) (ma_cons mx_int ma_nil))) (ma_cons (mv 3) ma_nil))))))))))))))
    (mss_one (ms_ret (mv 3))))))), ?_⟩
  wtm_at "go"
  refine ⟨by omega, by omega, ?_⟩
  have Ir := I.rd
  refine lcC_pure (fun d => match d with | .int j => .str (wordOf s (8 + j)) | _ => .non) (by rw [rangeD_len]; exact sl (by omega)) trivial ?_ ?_
  · intro d hd R hR
    obtain ⟨j, hj, rfl⟩ := rangeD_mem hd
    refine ⟨rfl, ?_⟩
    wtm_at "go"
    exact ⟨a, s, _, rfl, Ir, B, by omega, hR⟩
  intro p hp
  have ew : (rangeD 0 (many : Int).toNat).map (fun d => match d with | .int j => D.str (wordOf s (8 + j)) | _ => .non) = (namesOf s many).map D.str := by
    unfold rangeD namesOf
    rw [List.map_map, List.map_map, show ((many : Int)).toNat = many by omega]
    apply List.map_congr_left
    intro j _
    show D.str (wordOf s (8 + (0 + (j : Int)))) = D.str (wordOf s (8 + (j : Int)))
    rw [Int.zero_add]
  rw [ew]
  have hnl : (namesOf s many).length ≤ 20 := by unfold namesOf; rw [List.length_map, List.length_range]; omega
  generalize hnm : namesOf s many = nms at hnl q
  wtm_at "go"
  refine i_putK (mput_new hp I.e) Dr.len ?_
  rw [Dr.p_names]
  have nap : p ≠ a := fun z => by rw [z, I.e] at hp; cases hp
  have I2 := (I.new (o := .lst (nms.map D.str)) hp).put (s' := { s with nm := p }) rfl I.at0 I.rest0 I.mix0 I.mix1
  have N2 : DrN (mput (mput m p (.lst (nms.map D.str))) a (Dr.o { s with nm := p })) { s with nm := p } nms := ⟨rd_L (by rw [mput_ne nap, mput_same]), hnl⟩
  have sw2 : s.sw { s with nm := p } := ⟨rfl, rfl, rfl, rfl, rfl⟩
  generalize hs2 : ({ s with nm := p } : Dr) = s2 at I2 N2 sw2 ⊢
  have kp2 : Kp a m (mput (mput m p (.lst (nms.map D.str))) a s2.o) := (Kp.refl.new hp).trans Kp.put
  generalize hM2 : mput (mput m p (.lst (nms.map D.str))) a s2.o = M2 at I2 N2 kp2 ⊢
  have S := DrS.start I2 N2
  have B2 := B.sw sw2
  have w2 := wordOf_sw sw2
  have fin : ∀ (c : Con) (s' : Dr) (M : Mem), c.of (wordOf s) nms → c.dw → s2.nx s' → DrS K M2 a nms s' M → RtM Q c.d M := fun c s' M h1 h2 n S =>
    RtM.sub S.S (q c s' _ h1 h2 (Dr.sw_trans sw2 n.sw) S.J (N2.put I2 n) (kp2.trans Kp.put))
  clear q hM2 hs2
  wtm_at "go"
  refine spTaken.mkS S (by decide) (by decide) fun way s3 h0 h1 n3 S3 => ?_
  have B3 := B2.nx n3
  have w3 : wordOf s3 = wordOf s := (wordOf_nx n3).trans w2
  wtm_at "go"
  refine i_ite (fun c0 => ?_) (fun c0 => ?_)
  · wtm_at "go"
    refine spCon.mkS (dp := 3) S3 B3 rfl (by omega) fun x s4 hx dx n4 S4 => ?_
    rw [w3] at hx
    exact fin x s4 _ hx (.inl (by omega)) (Dr.nx_trans n3 n4) S4
  wtm_at "go"
  refine spSides.mkS S3 B3 fun x y s4 hxy n4 S4 => ?_
  rw [w3] at hxy
  have n34 := Dr.nx_trans n3 n4
  wtm_at "go"
  refine spGood.mkS S4 (B2.nx n34) fun g s5 hg n5 S5 => ?_
  rw [(wordOf_nx n34).trans w2] at hg
  have n35 := Dr.nx_trans n34 n5
  wtm_at "go"
  refine spTold.mkS (dp := 1) S5 rfl (by omega) fun t s6 td tof n6 S6 => ?_
  have n36 := Dr.nx_trans n35 n6
  wtm_at "go"
  refine ⟨by decide, by decide, ?_⟩
  refine forC_ind (fun r ρ M => ∃ (c : Con) (s7 : Dr) (x4 x5 : Option D), (r.length + c.dp ≤ 5 ∧ c.ch) ∧ ρ = [some (.ref a), some (.int many), x4, some c.d, x5] ∧ c.of (wordOf s) nms ∧ s2.nx s7 ∧ DrS K M2 a nms s7 M)
    ⟨.give x y g t, s6, _, _, ⟨Nat.le_refl 5, td⟩, rfl, ⟨hxy, hg, tof, by omega⟩, n36, S6⟩ ?_ ?_
  · rintro ρ M ⟨c, s7, x4, x5, ⟨hl, hch⟩, rfl, hc, n7, S7⟩
    refine ⟨trivial, ?_⟩
    wtm_at "go"
    exact fin c s7 _ hc (.inr ⟨by simpa using hl, hch⟩) n7 S7
  · rintro d r ρ M L hK ⟨c, s7, x4, x5, ⟨hl, hch⟩, rfl, hc, n7, S7⟩
    simp only [List.length_cons] at hl
    refine ⟨trivial, ?_⟩
    wtm_at "go"
    refine spTaken.mkS S7 (by decide) (by decide) fun v s8 v0 v1 n8 S8 => ?_
    have n78 := Dr.nx_trans n7 n8
    have B8 := B2.nx n78
    have w8 : wordOf s8 = wordOf s := (wordOf_nx n78).trans w2
    wtm_at "go"
    refine i_ite (fun c1 => ?_) (fun c1 => ?_)
    · wtm_at "go"
      refine spTaken.mkS S8 (by decide) (by decide) fun u s9 u0 u1 n9 S9 => ?_
      wtm_at "go"
      exact hK _ _ ⟨.later u c, s9, _, _, ⟨by show _ + (c.dp + 1) ≤ 5; omega, hch⟩, rfl, ⟨⟨u0, by omega⟩, hc⟩, Dr.nx_trans n78 n9, S9⟩
    have g1 : ¬ v = 0 := of_decide_eq_false c1
    wtm_at "go"
    refine i_ite (fun c2 => ?_) (fun c2 => ?_)
    · wtm_at "go"
      refine spSides.mkS S8 B8 fun x y s9 hxy n9 S9 => ?_
      rw [w8] at hxy
      wtm_at "go"
      exact hK _ _ ⟨.turned x y c, s9, _, _, ⟨by show _ + (c.dp + 1) ≤ 5; omega, hch⟩, rfl, ⟨hxy, hc⟩, Dr.nx_trans n78 n9, S9⟩
    have g2 : ¬ v = 1 := of_decide_eq_false c2
    wtm_at "go"
    refine i_ite (fun c3 => ?_) (fun c3 => ?_)
    · wtm_at "go"
      refine spTaken.mkS S8 (by decide) (by decide) fun u s9 u0 u1 n9 S9 => ?_
      wtm_at "go"
      refine spTaken.mkS S9 (by decide) (by decide) fun u' s10 u0' u1' n10 S10 => ?_
      wtm_at "go"
      exact hK _ _ ⟨.often (1 + u) (1 + u') c, s10, _, _, ⟨by show _ + (c.dp + 1) ≤ 5; omega, by omega, hch⟩, rfl, ⟨⟨by omega, by omega, by omega, by omega⟩, hc⟩, Dr.nx_trans n78 (Dr.nx_trans n9 n10), S10⟩
    have g3 : ¬ v = 2 := of_decide_eq_false c3
    wtm_at "go"
    intro p2 hp2
    have S9 := S8.new (o := .lst [.str (Str.ofString "when"), .str (Str.ofString "until")]) hp2
    wtm_at "go"
    obtain ⟨wd, mk, hj, e1, e2, e3, e4⟩ : ∃ (wd : Str) (mk : Asked → Con → Con), atI [D.str (Str.ofString "when"), .str (Str.ofString "until")] (v - 3) = some (.str wd) ∧ (∀ x y, (mk x y).d = .tup [.str wd, x.d, y.d]) ∧ (∀ x y, (mk x y).dp = y.dp + 1) ∧
        (∀ x y wd nms, (x.of nms ∧ x.dp ≤ 2 ∧ x.td ≤ 1) → y.of wd nms → (mk x y).of wd nms) ∧ (∀ x y, x.dp = 0 → y.ch → (mk x y).ch) := by
      have : v = 3 ∨ v = 4 := by omega
      rcases this with rfl | rfl
      · exact ⟨"when", .when, rfl, fun _ _ => rfl, fun _ _ => rfl, fun _ _ _ _ a b => ⟨a, b⟩, fun _ _ a b => ⟨a, b⟩⟩
      · exact ⟨"until", .till, rfl, fun _ _ => rfl, fun _ _ => rfl, fun _ _ _ _ a b => ⟨a, b⟩, fun _ _ a b => ⟨a, b⟩⟩
    refine i_subL (rd_L mput_same) hj ?_
    wtm_at "go"
    refine spAsked.mkS (dp := 0) S9 rfl (by omega) fun t2 s10 d2 td2 o2 n10 S10 => ?_
    wtm_at "go"
    rw [← e1]
    exact hK _ _ ⟨mk t2 c, s10, _, _, ⟨by rw [e2]; omega, e4 _ _ (by omega) hch⟩, rfl, e3 _ _ _ _ ⟨o2, by omega, td2⟩ hc, Dr.nx_trans n78 n10, S10⟩
inductive Kd (m : Mem) : D → Prop
  | non : Kd m .non
  | bl (b : Bool) : Kd m (.bl b)
  | int (i : Int) : Kd m (.int i)
  | str (x : Str) : x.length ≤ 1000 → PyData.strOk x = true → Kd m (.str x)
  | tup {ds : List D} : (∀ d ∈ ds, Kd m d) → (∀ d ∈ ds.head?, flD d = true) → Kd m (.tup ds)
  | lst {a : Addr} {ds : List D} : rdM m a = some (.lst ds) → (∀ d ∈ ds, Kd m d) → Kd m (.ref a)
theorem rdM_le {m m' : Mem} {a : Addr} {o : O} (s : Sub m m') (h : rdM m a = some o) : rdM m' a = some o := by
  unfold rdM at h ⊢
  cases e : m a with
  | none => rw [e] at h; cases h
  | some u => rw [e] at h; rw [s _ _ e]; exact h
theorem Kd.sub {m m' : Mem} (s : Sub m m') {d : D} (h : Kd m d) : Kd m' d := by
  induction h with
  | non => exact .non
  | bl b => exact .bl b
  | int i => exact .int i
  | str x h1 h2 => exact .str x h1 h2
  | tup _ h0 ih => exact .tup ih h0
  | lst e _ ih => exact .lst (rdM_le s e) ih
theorem Kd.tups {m : Mem} {ds : List D} (h : Kd m (.tup ds)) : ∀ d ∈ ds, Kd m d := by cases h; assumption
theorem Kd.hd {m : Mem} {x : D} {r : List D} (h : Kd m (.tup (x :: r))) : flD x = true := by cases h; rename_i h; exact h x rfl
theorem Kd.strs {m : Mem} {x : Str} (h : Kd m (.str x)) : x.length ≤ 1000 ∧ PyData.strOk x = true := by cases h; exact ⟨by assumption, by assumption⟩
theorem vwA_of {m : Mem} : ∀ {ds : List D}, (∀ d ∈ ds, ∃ t, Vw m d t ∧ t.canLay0 = true) → ∃ ts, VwA m ds ts ∧ PyData.canLayAll0 ts = true
  | [], _ => ⟨[], .nil, rfl⟩
  | d :: ds, h => by
    obtain ⟨t, h1, h2⟩ := h d (.head _)
    obtain ⟨ts, h3, h4⟩ := vwA_of fun x hx => h x (.tail _ hx)
    exact ⟨t :: ts, .cons h1 h3, by simp [PyData.canLayAll0, h2, h4]⟩
theorem Kd.vw {m : Mem} {d : D} (h : Kd m d) : ∃ t, Vw m d t ∧ t.canLay0 = true := by
  induction h with
  | non => exact ⟨_, .non, rfl⟩
  | bl b => exact ⟨_, .bl b, rfl⟩
  | int i => exact ⟨_, .int i, rfl⟩
  | str x h1 h2 => exact ⟨_, .str x, h2⟩
  | tup _ _ ih => obtain ⟨ts, h1, h2⟩ := vwA_of ih; exact ⟨_, .tup h1, h2⟩
  | lst e _ ih => obtain ⟨ts, h1, h2⟩ := vwA_of ih; exact ⟨_, .lst e h1, h2⟩
def isTy (T : String) : D → Bool
  | .non => isiB "NoneType" T
  | .bl _ => isiB "bool" T
  | .int _ => isiB "int" T
  | .str _ => isiB "str" T
  | .tup _ => isiB "tuple" T
  | .ref _ => isiB "list" T
  | .ty _ => false
theorem i_isiK {m : Mem} {Q : KM} {x : D} {T : String} (h : Kd m x) (hT : T ∈ tys) (q : Q (.bl (isTy T x)) m) : wIsi [x, .ty T] m Q := by
  cases h with
  | non => exact ⟨_, rfl, hT, q⟩
  | bl b => exact ⟨_, rfl, hT, q⟩
  | int i => exact ⟨_, rfl, hT, q⟩
  | str x h1 h2 => exact ⟨_, rfl, hT, q⟩
  | tup _ _ => exact ⟨_, rfl, hT, q⟩
  | @lst a ds e _ =>
    refine ⟨"list", ?_, hT, q⟩
    unfold rdM at e
    show (match m a with | some (.lst _) => some "list" | some (.dK _) => some "dict" | some (.dT _) => some "dict" | some (.frz (.lst _)) => some "list" | _ => none) = _
    cases c : m a with
    | none => rw [c] at e; cases e
    | some o =>
      rw [c] at e
      cases o with
      | frz o => cases e; rfl
      | lst l => rfl
      | dK l => cases e
      | dT l => cases e
      | dN _ _ l => cases e
      | ins C l => cases e
theorem eqM_none {m : Mem} {x y : Str} {r : List D} (h : Kd m (.tup (.str x :: r))) (hy : PyData.strOk y = true) : EqM m (.tup (.str x :: r)) (.tup [.str y]) (decide (x = y) && r.isEmpty) := by
  obtain ⟨t, h1, h2⟩ := h.vw
  refine .inr ⟨t, .tuple [.str y], h1, .tup (.cons (.str y) .nil), h2, ?_, ?_, ?_⟩
  · simp [PyData.canLay0, PyData.canLayAll0, hy]
  · exact Nat.le_trans (Nat.min_le_right _ _) (by simp [PyData.depth, PyData.depthAll])
  · cases h1 with
    | tup h1 =>
      cases h1 with
      | cons h1 h3 =>
        cases h1
        cases h3 with
        | nil => by_cases e : x = y <;> simp [PyData.eqv, PyData.eqvAll, e]
        | cons _ _ => by_cases e : x = y <;> simp [PyData.eqv, PyData.eqvAll, e]
def smallCps : List Nat := (Str.ofString "abcdefghijklmnopqrstuvwxyz").cps.toList
def okWord : D → Bool
  | .str x => decide (1 ≤ x.length ∧ x.length ≤ 8 ∧ ∀ c ∈ x.cps.toList, c ∈ smallCps)
  | _ => false
def okNum (l u : Int) : D → Bool
  | .int i => decide (l ≤ i) && decide (i ≤ u)
  | _ => false
def isJoin (x : Str) : Bool := decide (x = "plus") || decide (x = "minus") || decide (x = "times") || decide (x = "most") || decide (x = "least")
def okTold : Nat → D → Bool
  | n + 1, .tup (.str x :: r) =>
    if x = "num" then (match r with | [a] => okNum (1 - 1000000000000) (1000000000000 - 1) a | _ => false)
    else if x = "read" then (match r with | [a] => okWord a | _ => false)
    else match r with | [a, b] => isJoin x && (okTold n a && okTold n b) | _ => false
  | _, _ => false
def okAsked : Nat → D → Bool
  | n + 1, .tup (.str x :: r) =>
    if x = "below" then (match r with | [a, b] => okTold n a && okTold n b | _ => false)
    else if x = "not" then (match r with | [a] => okAsked n a | _ => false)
    else match r with | [a, b] => (decide (x = "all") || decide (x = "any")) && (okAsked n a && okAsked n b) | _ => false
  | _, _ => false
def okSides : D → D → Bool
  | .str x, .str y => okWord (.str x) && okWord (.str y) && !decide (x = y)
  | _, _ => false
def okCon : Nat → D → Bool
  | n + 1, .tup (.str x :: r) =>
    if x = "give" then (match r with | [a, b, g, t] => okWord g && okSides a b && okTold n t | _ => false)
    else if x = "turned" then (match r with | [a, b, c] => okSides a b && okCon n c | _ => false)
    else if x = "later" then (match r with | [h, c] => okNum 0 99 h && okCon n c | _ => false)
    else if x = "often" then (match r with | [k, h, c] => okNum 1 9 k && okNum 1 99 h && okCon n c | _ => false)
    else if x = "if" then (match r with | [q, a, b] => okAsked n q && okCon n a && okCon n b | _ => false)
    else if x = "when" then (match r with | [q, a] => okAsked n q && okCon n a | _ => false)
    else if x = "until" then (match r with | [q, a] => okAsked n q && okCon n a | _ => false)
    else if x = "both" then (match r with | [a, b] => okCon n a && okCon n b | _ => false)
    else decide (x = "none") && r.isEmpty
  | _, _ => false
def KdA (m : Mem) (ds : List D) : Prop := ∀ d ∈ ds, Kd m d
theorem kdA_nil {m : Mem} : KdA m [] := fun _ h => (nomatch h)
theorem kdA_cons {m : Mem} {d : D} {ds : List D} (h : Kd m d) (r : KdA m ds) : KdA m (d :: ds) := fun x hx => by
  rcases List.mem_cons.mp hx with rfl | hx
  · exact h
  · exact r x hx
theorem kdA_app {m : Mem} {ds es : List D} (h : KdA m ds) (k : KdA m es) : KdA m (ds ++ es) := fun x hx => by
  rcases List.mem_append.mp hx with hx | hx
  · exact h x hx
  · exact k x hx
theorem kd_tup0 {m : Mem} : Kd m (.tup []) := .tup kdA_nil fun _ h => (nomatch h)
theorem kd_tup {m : Mem} {x : D} {ds : List D} (h0 : flD x = true) (h : KdA m (x :: ds)) : Kd m (.tup (x :: ds)) := .tup h fun d h => by cases h; exact h0
theorem KdA.mp {m : Mem} {L : List D} {d : D} (h : KdA m L) (hm : d ∈ L) : Kd m d := h d hm
def gMust (C : Addr) : SpM := fun ds m Q E => match ds with
  | [.bl b] => if b = true then Q .non m else E C m
  | _ => False
theorem gMust_in {C : Addr} {b : Bool} {m : Mem} {Q : KM} {E : XM} (h : if b = true then Q .non m else E C m) : gMust C [.bl b] m Q E := h
structure Xcs (K : PySem.W.Frag) (mg : Str → Option Value) (c_BookError c_BadContract c_BadMarket c_TooMany c_BadText : Addr) : Prop where
  X_BookError : XcF K mg "BookError" c_BookError
  X_BadContract : XcF K mg "BadContract" c_BadContract
  X_BadMarket : XcF K mg "BadMarket" c_BadMarket
  X_TooMany : XcF K mg "TooMany" c_TooMany
  X_BadText : XcF K mg "BadText" c_BadText
  e_BadContract : PySem.W.exmOne K (.ref c_BadContract) (.ref c_BookError) = some true
  s_BadContract : PySem.W.exmOne K (.ref c_BadContract) (.ref c_BadContract) = some true
  v_BadContract : PySem.W.kitOne K (.ref c_BadContract) (.type "ValueError") = some true
  k_BadContract_BookError : PySem.W.kitOne K (.ref c_BadContract) (.ref c_BookError) = some true
  k_BadContract_BadContract : PySem.W.kitOne K (.ref c_BadContract) (.ref c_BadContract) = some true
  k_BadContract_BadMarket : PySem.W.kitOne K (.ref c_BadContract) (.ref c_BadMarket) = some false
  k_BadContract_TooMany : PySem.W.kitOne K (.ref c_BadContract) (.ref c_TooMany) = some false
  k_BadContract_BadText : PySem.W.kitOne K (.ref c_BadContract) (.ref c_BadText) = some false
  e_BadMarket : PySem.W.exmOne K (.ref c_BadMarket) (.ref c_BookError) = some true
  s_BadMarket : PySem.W.exmOne K (.ref c_BadMarket) (.ref c_BadMarket) = some true
  v_BadMarket : PySem.W.kitOne K (.ref c_BadMarket) (.type "ValueError") = some true
  k_BadMarket_BookError : PySem.W.kitOne K (.ref c_BadMarket) (.ref c_BookError) = some true
  k_BadMarket_BadContract : PySem.W.kitOne K (.ref c_BadMarket) (.ref c_BadContract) = some false
  k_BadMarket_BadMarket : PySem.W.kitOne K (.ref c_BadMarket) (.ref c_BadMarket) = some true
  k_BadMarket_TooMany : PySem.W.kitOne K (.ref c_BadMarket) (.ref c_TooMany) = some false
  k_BadMarket_BadText : PySem.W.kitOne K (.ref c_BadMarket) (.ref c_BadText) = some false
  e_TooMany : PySem.W.exmOne K (.ref c_TooMany) (.ref c_BookError) = some true
  s_TooMany : PySem.W.exmOne K (.ref c_TooMany) (.ref c_TooMany) = some true
  v_TooMany : PySem.W.kitOne K (.ref c_TooMany) (.type "ValueError") = some true
  k_TooMany_BookError : PySem.W.kitOne K (.ref c_TooMany) (.ref c_BookError) = some true
  k_TooMany_BadContract : PySem.W.kitOne K (.ref c_TooMany) (.ref c_BadContract) = some false
  k_TooMany_BadMarket : PySem.W.kitOne K (.ref c_TooMany) (.ref c_BadMarket) = some false
  k_TooMany_TooMany : PySem.W.kitOne K (.ref c_TooMany) (.ref c_TooMany) = some true
  k_TooMany_BadText : PySem.W.kitOne K (.ref c_TooMany) (.ref c_BadText) = some false
  e_BadText : PySem.W.exmOne K (.ref c_BadText) (.ref c_BookError) = some true
  s_BadText : PySem.W.exmOne K (.ref c_BadText) (.ref c_BadText) = some true
  v_BadText : PySem.W.kitOne K (.ref c_BadText) (.type "ValueError") = some true
  k_BadText_BookError : PySem.W.kitOne K (.ref c_BadText) (.ref c_BookError) = some true
  k_BadText_BadContract : PySem.W.kitOne K (.ref c_BadText) (.ref c_BadContract) = some false
  k_BadText_BadMarket : PySem.W.kitOne K (.ref c_BadText) (.ref c_BadMarket) = some false
  k_BadText_TooMany : PySem.W.kitOne K (.ref c_BadText) (.ref c_TooMany) = some false
  k_BadText_BadText : PySem.W.kitOne K (.ref c_BadText) (.ref c_BadText) = some true
abbrev s_must : Stmt := topS 14
theorem sc_must : FnScope ["good"] ["good"] (defScope s_must) := ⟨rfl, rfl, rfl, by decide +kernel, rfl, by decide +kernel, by decide +kernel⟩
theorem gok_must {k : Nat} {c_BookError c_BadContract c_BadMarket c_TooMany c_BadText : Addr} (XE : Xcs K mg c_BookError c_BadContract c_BadMarket c_TooMany c_BadText) {f_must : Addr} {fd_must : FuncData} (F : Fun K "must" "must" s_must f_must fd_must) : FnMB P w K mg base (CXB P w) (k + 1) f_must fd_must ["good"] (gMust c_BadContract) := by
  refine fn_mXB F sc_must (fun ds m Q E h => ?_) (fun cdv A outer s H ds m Q E E' l hc hr h hw => ?_)
  · unfold gMust at h; split at h
    · rfl
    · exact h.elim
  have nd := sc_must.nd
  unfold gMust at h; split at h
  · rename_i b
    refine ⟨_, (mss_one (ms_if (mt_not (mt_val (mv 0))) (mss_one (bs_raise hc (takesB_of rfl rfl rfl rfl) hw (pmkA_own PySem.F.excBase_ValueError XE.X_BadContract.q XE.X_BadContract.g XE.X_BadContract.k XE.X_BadContract.raises rfl))) mss_nil)), ?_⟩
    cases b with
    | true => wtm_at "go"
    | false => wtm_at "go"
  · exact h.elim
def gNum (C : Addr) : SpM := fun ds m Q E => ∃ (d : D) (l u : Int), ds = [d, .int l, .int u] ∧ Kd m d ∧ if okNum l u d = true then Q .non m else E C m
local macro_rules | `(tactic| wtm_at "dec") => `(tactic| (simp [isTy, isiB]; done))
local macro_rules | `(tactic| wtm_at "dec") => `(tactic| (simp; done))
local macro_rules | `(tactic| wtm_at "dec") => `(tactic| (decide))
local macro_rules | `(tactic| wtm_at "dec") => `(tactic| (simp only [isN, ofString_inj, decide_eq_true_eq, decide_eq_false_iff_not, String.reduceEq, reduceCtorEq, not_false_eq_true, decide_true, decide_false, Bool.not_true, Bool.not_false, Bool.not_eq_true', Bool.not_eq_false', Int.reduceLT, Int.reduceLE, Int.reduceEq]; done))
local macro_rules | `(tactic| wtm_at "dec") => `(tactic| with_reducible rfl)
local macro_rules | `(tactic| wtm_at "one") => `(tactic| ((with_reducible apply i_isiK); (focus assumption); (focus decide)))
local macro_rules | `(tactic| wtm_at "one") => `(tactic| (with_reducible refine gMust_in ?_))
local macro_rules | `(tactic| wtm_at "kdt") => `(tactic| (repeat' first | with_reducible assumption | with_reducible exact kdA_nil | with_reducible refine kdA_cons ?_ ?_ | with_reducible refine kdA_app ?_ ?_ | with_reducible exact Kd.non | with_reducible exact Kd.int _ | with_reducible exact Kd.bl _ | with_reducible exact kd_tup0 | ((with_reducible refine kd_tup ?_ ?_); (focus rfl)) | (refine Kd.str _ ?_ ?_ <;> decide +kernel)))
abbrev s_need_number : Stmt := topS 16
theorem sc_need_number : FnScope ["number", "least", "most"] ["number", "least", "most"] (defScope s_need_number) := ⟨rfl, rfl, rfl, by decide +kernel, rfl, by decide +kernel, by decide +kernel⟩
theorem gok_need_number {k : Nat} (Z : Bl mg) {c : Addr} {f_must : Addr} {fd_must : FuncData} (D_must : Df K mg "must" f_must fd_must ["good"]) (G_must : FnMB P w K mg base (CXB P w) (k) f_must fd_must ["good"] (gMust c)) {f_need_number : Addr} {fd_need_number : FuncData} (F : Fun K "need_number" "need_number" s_need_number f_need_number fd_need_number) : FnMB P w K mg base (CXB P w) (k + 1) f_need_number fd_need_number ["number", "least", "most"] (gNum c) := by
  refine fn_mXB F sc_need_number (fun ds m Q E h => ?_) (fun cdv A outer s H ds m Q E E' l hc hr h hw => ?_)
  · obtain ⟨d, l, u, rfl, _⟩ := h; rfl
  have nd := sc_need_number.nd
  obtain ⟨d, l, u, rfl, hk, q⟩ := h
  have hE : okNum l u d = false → E c m := fun e => by rw [e] at q; exact q
  have hQ : okNum l u d = true → RtM Q .non m := fun e => by rw [e] at q; exact RtM.mk q
  clear q
  refine ⟨_, (mss_cons (ms_expr (bx_call (Em := E) G_must hr hc D_must.m D_must.k D_must.b (passMB (takesB_of rfl rfl rfl rfl) hw) (ma_cons (mx_and (mx_callB mc_isinstance2 Z.b_isinstance (ma_cons (mv 0) (ma_cons (mx_ty (T := "int") Z.b_int) ma_nil))) (mx_one (mx_not (mx_callB mc_isinstance2 Z.b_isinstance (ma_cons (mv 0) (ma_cons (mx_ty (T := "bool") Z.b_bool) ma_nil)))))) ma_nil)))
    (mss_one (ms_expr (bx_call (Em := E) G_must hr hc D_must.m D_must.k D_must.b (passMB (takesB_of rfl rfl rfl rfl) hw) (ma_cons (mx_chain mo_le mo_le (mv 1) (mv 0) (mv 2)) ma_nil))))), ?_⟩
  cases d with
  | int i =>
    wtm_at "go"
    refine i_ite (fun h1 => ?_) (fun h1 => ?_)
    · have h1 : l ≤ i := of_decide_eq_true h1
      wtm_at "go"
      refine i_ite (fun h2 => ?_) (fun h2 => ?_)
      · exact hQ (by simp [okNum, h1, of_decide_eq_true h2])
      · exact hE (by simp [okNum, of_decide_eq_false h2])
    · have h1 := of_decide_eq_false h1
      wtm_at "go"
      exact hE (by simp [okNum, h1])
  | _ => wtm_at "go"; exact hE rfl
def okTup (deep : Int) : D → Bool
  | .tup (.str _ :: _) => decide (deep ≤ 12)
  | _ => false
def gTup (C : Addr) : SpM := fun ds m Q E => ∃ (d : D) (deep : Int), ds = [d, .int deep] ∧ Kd m d ∧ if okTup deep d = true then Q .non m else E C m
abbrev s_need_tuple : Stmt := topS 17
theorem sc_need_tuple : FnScope ["told", "deep"] ["told", "deep"] (defScope s_need_tuple) := ⟨rfl, rfl, rfl, by decide +kernel, rfl, by decide +kernel, by decide +kernel⟩
theorem gok_need_tuple {k : Nat} (V : Gv K mg) (Z : Bl mg) {c : Addr} {f_must : Addr} {fd_must : FuncData} (D_must : Df K mg "must" f_must fd_must ["good"]) (G_must : FnMB P w K mg base (CXB P w) (k) f_must fd_must ["good"] (gMust c)) {f_need_tuple : Addr} {fd_need_tuple : FuncData} (F : Fun K "need_tuple" "need_tuple" s_need_tuple f_need_tuple fd_need_tuple) : FnMB P w K mg base (CXB P w) (k + 1) f_need_tuple fd_need_tuple ["told", "deep"] (gTup c) := by
  refine fn_mXB F sc_need_tuple (fun ds m Q E h => ?_) (fun cdv A outer s H ds m Q E E' l hc hr h hw => ?_)
  · obtain ⟨d, deep, rfl, _⟩ := h; rfl
  have nd := sc_need_tuple.nd
  obtain ⟨d, deep, rfl, hk, q⟩ := h
  have hE : okTup deep d = false → E c m := fun e => by rw [e] at q; exact q
  have hQ : okTup deep d = true → RtM Q .non m := fun e => by rw [e] at q; exact RtM.mk q
  clear q
  refine ⟨_, (mss_one (ms_expr (bx_call (Em := E) G_must hr hc D_must.m D_must.k D_must.b (passMB (takesB_of rfl rfl rfl rfl) hw) (ma_cons (mx_and (mx_callB mc_isinstance2 Z.b_isinstance (ma_cons (mv 0) (ma_cons (mx_ty (T := "tuple") Z.b_tuple) ma_nil))) (mx_and (mx_cmp mo_gt (mx_callB mc_len1 Z.b_len (ma_cons (mv 0) ma_nil)) mx_int (nomark _)) (mx_and (mx_callB mc_isinstance2 Z.b_isinstance (ma_cons (mx_ix (mi_sub_u (hu65H hr)) (mv 0) mx_int) (ma_cons (mx_ty (T := "str") Z.b_str) ma_nil))) (mx_one (mx_cmp mo_le (mv 1) (mx_gt V.MOST_DEEP) (nomark _)))))) ma_nil)))), ?_⟩
  cases d with
  | tup r =>
    cases r with
    | nil => wtm_at "go"; exact hE rfl
    | cons x r =>
      have hx := hk.tups x (.head _)
      wtm_at "go"
      cases x with
      | str x =>
        wtm_at "go"
        refine i_ite (fun h => ?_) (fun h => ?_)
        · exact hQ h
        · exact hE h
      | _ => wtm_at "go"; exact hE rfl
  | _ => wtm_at "go"; exact hE rfl
def gWord : SpM := fun ds m Q _ => ∃ d : D, ds = [d] ∧ Kd m d ∧ Q (.bl (okWord d)) m
abbrev s_is_word : Stmt := topS 15
theorem sc_is_word : FnScope ["word", "sign"] ["word"] (defScope s_is_word) := ⟨rfl, rfl, rfl, by decide +kernel, rfl, by decide +kernel, by decide +kernel⟩
theorem gok_is_word {k : Nat} (V : Gv K mg) (Z : Bl mg) {f_is_word : Addr} {fd_is_word : FuncData} (F : Fun K "is_word" "is_word" s_is_word f_is_word fd_is_word) : FnMB P w K mg base CX0 (k + 1) f_is_word fd_is_word ["word"] (gWord) := by
  refine fn_mB F sc_is_word (fun ds m Q E h => ?_) (fun cdv A outer s H ds m Q E E' l hc hr h => ?_)
  · obtain ⟨x, rfl, _⟩ := h; rfl
  have nd := sc_is_word.nd
  obtain ⟨d, rfl, hk, q⟩ := h
  refine ⟨_, (mss_one (ms_ret (mx_and (mx_callB mc_isinstance2 Z.b_isinstance (ma_cons (mv 0) (ma_cons (mx_ty (T := "str") Z.b_str) ma_nil))) (mx_and (mx_chain mo_le mo_le mx_int (mx_callB mc_len1 Z.b_len (ma_cons (mv 0) ma_nil)) mx_int) (mx_one (mx_callB (bc_all1 hc) Z.b_all (ma_cons (bx_lc (own := [("sign", 1)]) hc nd (bi_str (mv 0)) (blkOk_by (by show blkC ["word", "sign"] (defScope s_is_word) _ _ = true; decide +kernel)) (fun _ _ _ _ _ _ _ => (pg_name (i := 1) nd rfl (Or.inl rfl))) (gok_name (i := 1) (by decide)) (fun _ _ _ _ _ _ _ => mts_nil) (fun _ _ _ _ _ _ _ => (mx_cmp (mo_in_u (hu65H hr)) (mv 1) (mx_gt V.SMALL_contracts) rfl))) ma_nil))))))), ?_⟩
  cases d with
  | str x =>
    have sz : x.length ≤ sizeLine := sl hk.strs.1
    wtm_at "go"
    refine i_lenS sz ?_
    wtm_at "go"
    by_cases h1 : 1 ≤ x.length
    · rw [decide_eq_true (show (1 : Int) ≤ (x.length : Int) by omega)]
      wtm_at "go"
      by_cases h2 : x.length ≤ 8
      · rw [decide_eq_true (show (x.length : Int) ≤ 8 by omega)]
        wtm_at "go"
        have len8 : (signsD x).length ≤ 8 := by unfold signsD; rw [List.length_map, Array.length_toList]; exact h2
        refine ⟨.str x, rfl, x, rfl, ?_⟩
        refine lcC_pure (fun d => .bl (match d with | .str y => decide (∃ c ∈ y.cps.toList, c ∈ smallCps) | _ => false)) (sl (by omega)) trivial ?_ ?_
        · intro d hd R hR
          obtain ⟨c, hc, rfl⟩ := List.mem_map.mp hd
          refine ⟨rfl, ?_⟩
          wtm_at "go"
          refine i_in in_sign ?_
          have e : (decide (c ∈ (Str.ofString "abcdefghijklmnopqrstuvwxyz").cps.toList)) = decide (∃ c' ∈ (⟨#[c]⟩ : Str).cps.toList, c' ∈ smallCps) := by
            congr 1; simp [smallCps]
          rw [e]
          exact hR
        intro p hp
        wtm_at "go"
        refine ⟨x.cps.toList.map fun c => decide (c ∈ smallCps), rd_L (by
          rw [mput_same]; unfold signsD; rw [List.map_map, List.map_map]
          congr 2; exact List.map_congr_left fun c _ => by simp), ?_⟩
        refine RtM.sub (Sub.refl.new hp) ?_
        rw [show (x.cps.toList.map fun c => decide (c ∈ smallCps)).all id = okWord (.str x) by
          unfold okWord
          rw [Bool.eq_iff_iff, List.all_eq_true, decide_eq_true_iff]
          constructor
          · intro h; exact ⟨h1, h2, fun c hc => of_decide_eq_true (h _ (List.mem_map.mpr ⟨c, hc, rfl⟩))⟩
          · rintro ⟨_, _, h⟩ b hb
            obtain ⟨c, hc, rfl⟩ := List.mem_map.mp hb
            exact decide_eq_true (h c hc)]
        exact q
      · rw [decide_eq_false (show ¬ (x.length : Int) ≤ 8 by omega)]
        rw [show okWord (.str x) = false by unfold okWord; exact decide_eq_false fun z => h2 z.2.1] at q
        wtm_at "go"
    · rw [decide_eq_false (show ¬ (1 : Int) ≤ (x.length : Int) by omega)]
      rw [show okWord (.str x) = false by unfold okWord; exact decide_eq_false fun z => h1 z.1] at q
      wtm_at "go"
  | _ => wtm_at "go"
def gSides (C : Addr) : SpM := fun ds m Q E => ∃ x y : D, ds = [x, y] ∧ Kd m x ∧ Kd m y ∧ if okSides x y = true then Q .non m else E C m
abbrev s_need_sides : Stmt := topS 20
theorem sc_need_sides : FnScope ["one", "other"] ["one", "other"] (defScope s_need_sides) := ⟨rfl, rfl, rfl, by decide +kernel, rfl, by decide +kernel, by decide +kernel⟩
theorem gok_need_sides {k : Nat} {c : Addr} {f_must : Addr} {fd_must : FuncData} (D_must : Df K mg "must" f_must fd_must ["good"]) (G_must : FnMB P w K mg base (CXB P w) (k) f_must fd_must ["good"] (gMust c)) {f_is_word : Addr} {fd_is_word : FuncData} (D_is_word : Df K mg "is_word" f_is_word fd_is_word ["word"]) (G_is_word : FnMB P w K mg base CX0 (k) f_is_word fd_is_word ["word"] (gWord)) {f_need_sides : Addr} {fd_need_sides : FuncData} (F : Fun K "need_sides" "need_sides" s_need_sides f_need_sides fd_need_sides) : FnMB P w K mg base (CXB P w) (k + 1) f_need_sides fd_need_sides ["one", "other"] (gSides c) := by
  refine fn_mXB F sc_need_sides (fun ds m Q E h => ?_) (fun cdv A outer s H ds m Q E E' l hc hr h hw => ?_)
  · obtain ⟨x, y, rfl, _⟩ := h; rfl
  have nd := sc_need_sides.nd
  obtain ⟨x, y, rfl, hx, hy, q⟩ := h
  have hE : okSides x y = false → E c m := fun e => by rw [e] at q; exact q
  have hQ : okSides x y = true → RtM Q .non m := fun e => by rw [e] at q; exact RtM.mk q
  clear q
  refine ⟨_, (mss_one (ms_expr (bx_call (Em := E) G_must hr hc D_must.m D_must.k D_must.b (passMB (takesB_of rfl rfl rfl rfl) hw) (ma_cons (mx_and (bx_call (Em := noX) G_is_word hr hc D_is_word.m D_is_word.k D_is_word.b pass0M (ma_cons (mv 0) ma_nil)) (mx_and (bx_call (Em := noX) G_is_word hr hc D_is_word.m D_is_word.k D_is_word.b pass0M (ma_cons (mv 1) ma_nil)) (mx_one (mx_cmp (mo_neq_u (hu65H hr)) (mv 0) (mv 1) (nomark _))))) ma_nil)))), ?_⟩
  wtm_at "go"
  refine ⟨x, rfl, hx, ?_⟩
  wtm_at "go"
  refine i_ite (fun h1 => ?_) (fun h1 => ?_)
  · cases x with
    | str x =>
      wtm_at "go"
      refine ⟨y, rfl, hy, ?_⟩
      wtm_at "go"
      refine i_ite (fun h2 => ?_) (fun h2 => ?_)
      · cases y with
        | str y =>
          wtm_at "go"
          refine i_ite (fun h => ?_) (fun h => ?_)
          · exact hQ (by simp [okSides, h1, h2]; simpa using h)
          · exact hE (by simp [okSides, h1, h2]; simpa using h)
        | _ => cases h2
      · wtm_at "go"
        exact hE (by cases y <;> simp_all [okSides])
    | _ => cases h1
  · wtm_at "go"
    exact hE (by cases x <;> cases y <;> simp_all [okSides])
local macro_rules | `(tactic| wtm_at "dec") => `(tactic| (simp; omega))
local macro_rules | `(tactic| wtm_at "dec") => `(tactic| (simp [isTy, isiB]; done))
local macro_rules | `(tactic| wtm_at "dec") => `(tactic| (simp; done))
local macro_rules | `(tactic| wtm_at "dec") => `(tactic| (decide))
local macro_rules | `(tactic| wtm_at "dec") => `(tactic| (simp only [isN, ofString_inj, decide_eq_true_eq, decide_eq_false_iff_not, String.reduceEq, reduceCtorEq, not_false_eq_true, decide_true, decide_false, Bool.not_true, Bool.not_false, Bool.not_eq_true', Bool.not_eq_false', Int.reduceLT, Int.reduceLE, Int.reduceEq]; done))
local macro_rules | `(tactic| wtm_at "dec") => `(tactic| with_reducible rfl)
theorem okTup_iff {deep : Int} {d : D} : okTup deep d = true ↔ (∃ x r, d = .tup (.str x :: r)) ∧ deep ≤ 12 := by
  unfold okTup
  split
  · rename_i x r; exact ⟨fun h => ⟨⟨x, r, rfl⟩, of_decide_eq_true h⟩, fun h => decide_eq_true h.2⟩
  · rename_i h; exact ⟨fun z => (nomatch z), fun ⟨⟨x, r, e⟩, _⟩ => (h x r e).elim⟩
theorem okTold_sh {n : Nat} {d : D} (h : okTold n d = true) : (∃ x r, d = .tup (.str x :: r)) ∧ 0 < n := by
  unfold okTold at h; split at h
  · exact ⟨⟨_, _, rfl⟩, Nat.succ_pos _⟩
  · cases h
theorem okAsked_sh {n : Nat} {d : D} (h : okAsked n d = true) : (∃ x r, d = .tup (.str x :: r)) ∧ 0 < n := by
  unfold okAsked at h; split at h
  · exact ⟨⟨_, _, rfl⟩, Nat.succ_pos _⟩
  · cases h
theorem okCon_sh {n : Nat} {d : D} (h : okCon n d = true) : (∃ x r, d = .tup (.str x :: r)) ∧ 0 < n := by
  unfold okCon at h; split at h
  · exact ⟨⟨_, _, rfl⟩, Nat.succ_pos _⟩
  · cases h
def gFam (ok : Nat → D → Bool) (C : Addr) : Nat → SpM
  | 0 => fun _ _ _ _ => False
  | n + 1 => fun ds m Q E => ∃ (d : D) (deep : Int), ds = [d, .int deep] ∧ Kd m d ∧ deep = 13 - (n : Int) ∧ if ok n d = true then Q .non m else E C m
theorem eqF_any {x : Str} : ∀ {l : List Str}, ((l.map D.str).any fun z => eqF z (.str x)) = l.any fun y => decide (x = y)
  | [] => rfl
  | y :: l => by
    simp only [List.map_cons, List.any_cons, eqF_any]
    congr 1
    show (y == x) = decide (x = y)
    by_cases e : x = y
    · subst e; simp
    · rw [decide_eq_false e]; exact beq_eq_false_iff_ne.mpr fun z => e z.symm
theorem joins_any {x : Str} : ([D.str "plus", .str "minus", .str "times", .str "most", .str "least"].any fun z => eqF z (.str x)) = isJoin x := by
  have := eqF_any (x := x) (l := ["plus", "minus", "times", "most", "least"])
  exact this.trans (by simp [isJoin, Bool.or_assoc])
abbrev s_need_told : Stmt := topS 18
theorem sc_need_told : FnScope ["told", "deep"] ["told", "deep"] (defScope s_need_told) := ⟨rfl, rfl, rfl, by decide +kernel, rfl, by decide +kernel, by decide +kernel⟩
theorem gok_need_told {k n : Nat} (V : Gv K mg) (Z : Bl mg) {c : Addr} {f_must : Addr} {fd_must : FuncData} (D_must : Df K mg "must" f_must fd_must ["good"]) (G_must : FnMB P w K mg base (CXB P w) (k) f_must fd_must ["good"] (gMust c)) {f_need_tuple : Addr} {fd_need_tuple : FuncData} (D_need_tuple : Df K mg "need_tuple" f_need_tuple fd_need_tuple ["told", "deep"]) (G_need_tuple : FnMB P w K mg base (CXB P w) (k) f_need_tuple fd_need_tuple ["told", "deep"] (gTup c)) {f_need_number : Addr} {fd_need_number : FuncData} (D_need_number : Df K mg "need_number" f_need_number fd_need_number ["number", "least", "most"]) (G_need_number : FnMB P w K mg base (CXB P w) (k) f_need_number fd_need_number ["number", "least", "most"] (gNum c)) {f_is_word : Addr} {fd_is_word : FuncData} (D_is_word : Df K mg "is_word" f_is_word fd_is_word ["word"]) (G_is_word : FnMB P w K mg base CX0 (k) f_is_word fd_is_word ["word"] (gWord)) {f_need_told : Addr} {fd_need_told : FuncData} (D_need_told : Df K mg "need_told" f_need_told fd_need_told ["told", "deep"]) (G_need_told : FnMB P w K mg base (CXB P w) (k) f_need_told fd_need_told ["told", "deep"] (gFam okTold c n)) (F : Fun K "need_told" "need_told" s_need_told f_need_told fd_need_told) : FnMB P w K mg base (CXB P w) (k + 1) f_need_told fd_need_told ["told", "deep"] (gFam okTold c (n + 1)) := by
  refine fn_mXB F sc_need_told (fun ds m Q E h => ?_) (fun cdv A outer s H ds m Q E E' l hc hr h hw => ?_)
  · obtain ⟨t, deep, rfl, _⟩ := h; rfl
  have nd := sc_need_told.nd
  obtain ⟨d, deep, rfl, hk, hd, q⟩ := h
  have hE : okTold n d = false → E c m := fun e => by rw [e] at q; exact q
  have hQ : okTold n d = true → RtM Q .non m := fun e => by rw [e] at q; exact RtM.mk q
  clear q
  refine ⟨_, (mss_cons (ms_expr (bx_call (Em := E) G_need_tuple hr hc D_need_tuple.m D_need_tuple.k D_need_tuple.b (passMB (takesB_of rfl rfl rfl rfl) hw) (ma_cons (mv 0) (ma_cons (mv 1) ma_nil))))
    (mss_one (ms_if (mt_cmp (mo_eqq_u (hu65H hr)) (mx_ix (mi_sub_u (hu65H hr)) (mv 0) mx_int) mx_str (nomark _)) (mss_cons (ms_expr (bx_call (Em := E) G_must hr hc D_must.m D_must.k D_must.b (passMB (takesB_of rfl rfl rfl rfl) hw) (ma_cons (mx_cmp (mo_eqq_u (hu65H hr)) (mx_callB mc_len1 Z.b_len (ma_cons (mv 0) ma_nil)) mx_int (nomark _)) ma_nil)))
    (mss_one (ms_expr (bx_call (Em := E) G_need_number hr hc D_need_number.m D_need_number.k D_need_number.b (passMB (takesB_of rfl rfl rfl rfl) hw) (ma_cons (mx_ix (mi_sub_u (hu65H hr)) (mv 0) mx_int) (ma_cons (mx_op mo_sub mx_int (mx_gt V.GREATEST)) (ma_cons (mx_op mo_sub (mx_gt V.GREATEST) mx_int) ma_nil))))))) (mss_one (ms_if (mt_cmp (mo_eqq_u (hu65H hr)) (mx_ix (mi_sub_u (hu65H hr)) (mv 0) mx_int) mx_str (nomark _)) (mss_one (ms_expr (bx_call (Em := E) G_must hr hc D_must.m D_must.k D_must.b (passMB (takesB_of rfl rfl rfl rfl) hw) (ma_cons (mx_and (mx_cmp (mo_eqq_u (hu65H hr)) (mx_callB mc_len1 Z.b_len (ma_cons (mv 0) ma_nil)) mx_int (nomark _)) (mx_one (bx_call (Em := noX) G_is_word hr hc D_is_word.m D_is_word.k D_is_word.b pass0M (ma_cons (mx_ix (mi_sub_u (hu65H hr)) (mv 0) mx_int) ma_nil)))) ma_nil)))) (mss_cons (ms_expr (bx_call (Em := E) G_must hr hc D_must.m D_must.k D_must.b (passMB (takesB_of rfl rfl rfl rfl) hw) (ma_cons (mx_and (mx_cmp (mo_in_u (hu65H hr)) (mx_ix (mi_sub_u (hu65H hr)) (mv 0) mx_int) (mx_gt V.JOINS) rfl) (mx_one (mx_cmp (mo_eqq_u (hu65H hr)) (mx_callB mc_len1 Z.b_len (ma_cons (mv 0) ma_nil)) mx_int (nomark _)))) ma_nil)))
    (mss_cons (ms_expr (bx_call (Em := E) G_need_told hr hc D_need_told.m D_need_told.k D_need_told.b (passMB (takesB_of rfl rfl rfl rfl) hw) (ma_cons (mx_ix (mi_sub_u (hu65H hr)) (mv 0) mx_int) (ma_cons (mx_op mo_plus (mv 1) mx_int) ma_nil))))
    (mss_one (ms_expr (bx_call (Em := E) G_need_told hr hc D_need_told.m D_need_told.k D_need_told.b (passMB (takesB_of rfl rfl rfl rfl) hw) (ma_cons (mx_ix (mi_sub_u (hu65H hr)) (mv 0) mx_int) (ma_cons (mx_op mo_plus (mv 1) mx_int) ma_nil)))))))))))), ?_⟩
  wtm_at "go"
  refine ⟨d, deep, rfl, hk, ?_⟩
  refine i_ite (fun h1 => ?_) (fun h1 => ?_)
  · obtain ⟨⟨x, r, rfl⟩, h12⟩ := okTup_iff.mp h1
    have hr' : ∀ y ∈ r, Kd m y := fun y hy => hk.tups y (.tail _ hy)
    obtain ⟨n, rfl⟩ : ∃ n', n = n' + 1 := ⟨n - 1, by omega⟩
    wtm_at "go"
    refine i_ite (fun h2 => ?_) (fun h2 => ?_)
    · have h2 := of_decide_eq_true h2; subst h2
      rcases r with _ | ⟨a, _ | ⟨b, l⟩⟩
      · wtm_at "go"; exact hE rfl
      · wtm_at "go"
        refine ⟨a, _, _, rfl, hr' a (.head _), ?_⟩
        refine i_ite (fun h => ?_) (fun h => hE (by simp only [okTold, if_true]; exact h))
        wtm_at "go"
        exact hQ (by simp only [okTold, if_true]; exact h)
      · wtm_at "go"; exact hE rfl
    · have h2 := of_decide_eq_false h2
      wtm_at "go"
      refine i_ite (fun h3 => ?_) (fun h3 => ?_)
      · have h3 := of_decide_eq_true h3; subst h3
        rcases r with _ | ⟨a, _ | ⟨b, l⟩⟩
        · wtm_at "go"; exact hE (by simp [okTold, h2])
        · wtm_at "go"
          refine ⟨a, rfl, hr' a (.head _), ?_⟩
          wtm_at "go"
          refine i_ite (fun h => ?_) (fun h => hE (by simp [okTold, h2]; exact h))
          exact hQ (by simp [okTold, h2]; exact h)
        · wtm_at "go"; exact hE (by simp [okTold, h2])
      · have h3 := of_decide_eq_false h3
        wtm_at "go"
        refine i_in (in_tup rfl rfl) ?_
        rw [joins_any]
        wtm_at "go"
        refine i_ite (fun h4 => ?_) (fun h4 => ?_)
        · rcases r with _ | ⟨a, _ | ⟨b, _ | ⟨u, l⟩⟩⟩
          · wtm_at "go"; exact hE (by simp [okTold, h2, h3])
          · wtm_at "go"; exact hE (by simp [okTold, h2, h3])
          · wtm_at "go"
            refine ⟨a, _, rfl, hr' a (by simp), by omega, ?_⟩
            refine i_ite (fun h => ?_) (fun h => hE (by simp [okTold, h2, h3, h]))
            wtm_at "go"
            refine ⟨b, _, rfl, hr' b (by simp), by omega, ?_⟩
            refine i_ite (fun h' => ?_) (fun h' => hE (by simp [okTold, h2, h3, h']))
            exact hQ (by simp [okTold, h2, h3, h4, h, h'])
          · wtm_at "go"; exact hE (by simp [okTold, h2, h3])
        · wtm_at "go"
          exact hE (by simp only [okTold, if_neg h2, if_neg h3]; split <;> simp_all)
  · refine hE (Bool.eq_false_iff.mpr fun h => ?_)
    obtain ⟨h2, h3⟩ := okTold_sh h
    rw [okTup_iff.mpr ⟨h2, by omega⟩] at h1; cases h1
theorem gfin_need_told {c : Nat} (V : Gv K mg) (Z : Bl mg) {C : Addr} {f_must : Addr} {fd_must : FuncData} (D_must : Df K mg "must" f_must fd_must ["good"]) (G_must : FnMB P w K mg base (CXB P w) (c) f_must fd_must ["good"] (gMust C)) {f_need_tuple : Addr} {fd_need_tuple : FuncData} (D_need_tuple : Df K mg "need_tuple" f_need_tuple fd_need_tuple ["told", "deep"]) (G_need_tuple : FnMB P w K mg base (CXB P w) (c) f_need_tuple fd_need_tuple ["told", "deep"] (gTup C)) {f_need_number : Addr} {fd_need_number : FuncData} (D_need_number : Df K mg "need_number" f_need_number fd_need_number ["number", "least", "most"]) (G_need_number : FnMB P w K mg base (CXB P w) (c) f_need_number fd_need_number ["number", "least", "most"] (gNum C)) {f_is_word : Addr} {fd_is_word : FuncData} (D_is_word : Df K mg "is_word" f_is_word fd_is_word ["word"]) (G_is_word : FnMB P w K mg base CX0 (c) f_is_word fd_is_word ["word"] (gWord)) {f_need_told : Addr} {fd_need_told : FuncData} (D_need_told : Df K mg "need_told" f_need_told fd_need_told ["told", "deep"]) (F : Fun K "need_told" "need_told" s_need_told f_need_told fd_need_told) : ∀ n, FnMB P w K mg base (CXB P w) (c + n) f_need_told fd_need_told ["told", "deep"] (gFam okTold C n)
  | 0 => fn_noneB fun ds m Q E h => h
  | n + 1 => gok_need_told V Z D_must (G_must.mono (Nat.le_add_right c n)) D_need_tuple (G_need_tuple.mono (Nat.le_add_right c n)) D_need_number (G_need_number.mono (Nat.le_add_right c n)) D_is_word (G_is_word.mono (Nat.le_add_right c n)) D_need_told (gfin_need_told V Z D_must G_must D_need_tuple G_need_tuple D_need_number G_need_number D_is_word G_is_word D_need_told F n) F
theorem cutL_one' {α : Type} {x : α} {xs : List α} : cutL (x :: xs) (some 1) none = xs := by
  unfold cutL
  rw [show HT.sIx (x :: xs).length 0 (some 1) = 1 by show (if (1 : Int) < 0 then (1 + ((x :: xs).length : Int)).toNat else min (1 : Int).toNat (x :: xs).length) = 1; simp, show HT.sIx (x :: xs).length (x :: xs).length none = (x :: xs).length from rfl]
  simp
theorem i_seqO {t u : TSm} {E : EndsM} {ρ : StM} {m : Mem} {R : StM → Mem → Prop} (hk : ∀ ρ' m', R ρ' m' → u E ρ' m')
    (h : ∀ N : StM → Mem → Prop, (∀ ρ' m', R ρ' m' → N ρ' m') → t { E with nx := N } ρ m) : wSeq t u E ρ m := h _ hk
theorem asks_any {x : Str} : ([D.str "not", .str "all", .str "any"].any fun z => eqF z (.str x)) = (decide (x = "not") || (decide (x = "all") || decide (x = "any"))) := by
  have := eqF_any (x := x) (l := ["not", "all", "any"])
  exact this.trans (by simp)
theorem ifs_any {x : Str} : ([D.str "if", .str "when", .str "until"].any fun z => eqF z (.str x)) = (decide (x = "if") || (decide (x = "when") || decide (x = "until"))) := by
  have := eqF_any (x := x) (l := ["if", "when", "until"])
  exact this.trans (by simp)
abbrev s_need_asked : Stmt := topS 19
theorem sc_need_asked : FnScope ["asked", "deep", "inner"] ["asked", "deep"] (defScope s_need_asked) := ⟨rfl, rfl, rfl, by decide +kernel, rfl, by decide +kernel, by decide +kernel⟩
theorem gok_need_asked {k n : Nat} (V : Gv K mg) (Z : Bl mg) {c : Addr} {f_must : Addr} {fd_must : FuncData} (D_must : Df K mg "must" f_must fd_must ["good"]) (G_must : FnMB P w K mg base (CXB P w) (k) f_must fd_must ["good"] (gMust c)) {f_need_tuple : Addr} {fd_need_tuple : FuncData} (D_need_tuple : Df K mg "need_tuple" f_need_tuple fd_need_tuple ["told", "deep"]) (G_need_tuple : FnMB P w K mg base (CXB P w) (k) f_need_tuple fd_need_tuple ["told", "deep"] (gTup c)) {f_need_told : Addr} {fd_need_told : FuncData} (D_need_told : Df K mg "need_told" f_need_told fd_need_told ["told", "deep"]) (G_need_told : FnMB P w K mg base (CXB P w) (k) f_need_told fd_need_told ["told", "deep"] (gFam okTold c n)) {f_need_asked : Addr} {fd_need_asked : FuncData} (D_need_asked : Df K mg "need_asked" f_need_asked fd_need_asked ["asked", "deep"]) (G_need_asked : FnMB P w K mg base (CXB P w) (k) f_need_asked fd_need_asked ["asked", "deep"] (gFam okAsked c n)) (F : Fun K "need_asked" "need_asked" s_need_asked f_need_asked fd_need_asked) : FnMB P w K mg base (CXB P w) (k + 1) f_need_asked fd_need_asked ["asked", "deep"] (gFam okAsked c (n + 1)) := by
  refine fn_mXB F sc_need_asked (fun ds m Q E h => ?_) (fun cdv A outer s H ds m Q E E' l hc hr h hw => ?_)
  · obtain ⟨t, deep, rfl, _⟩ := h; rfl
  have nd := sc_need_asked.nd
  obtain ⟨d, deep, rfl, hk, hd, q⟩ := h
  have hE : okAsked n d = false → E c m := fun e => by rw [e] at q; exact q
  have hQ : okAsked n d = true → RtM Q .non m := fun e => by rw [e] at q; exact RtM.mk q
  clear q
  refine ⟨_, (mss_cons (ms_expr (bx_call (Em := E) G_need_tuple hr hc D_need_tuple.m D_need_tuple.k D_need_tuple.b (passMB (takesB_of rfl rfl rfl rfl) hw) (ma_cons (mv 0) (ma_cons (mv 1) ma_nil))))
    (mss_one (ms_if (mt_cmp (mo_eqq_u (hu65H hr)) (mx_ix (mi_sub_u (hu65H hr)) (mv 0) mx_int) mx_str (nomark _)) (mss_cons (ms_expr (bx_call (Em := E) G_must hr hc D_must.m D_must.k D_must.b (passMB (takesB_of rfl rfl rfl rfl) hw) (ma_cons (mx_cmp (mo_eqq_u (hu65H hr)) (mx_callB mc_len1 Z.b_len (ma_cons (mv 0) ma_nil)) mx_int (nomark _)) ma_nil)))
    (mss_cons (ms_expr (bx_call (Em := E) G_need_told hr hc D_need_told.m D_need_told.k D_need_told.b (passMB (takesB_of rfl rfl rfl rfl) hw) (ma_cons (mx_ix (mi_sub_u (hu65H hr)) (mv 0) mx_int) (ma_cons (mx_op mo_plus (mv 1) mx_int) ma_nil))))
    (mss_one (ms_expr (bx_call (Em := E) G_need_told hr hc D_need_told.m D_need_told.k D_need_told.b (passMB (takesB_of rfl rfl rfl rfl) hw) (ma_cons (mx_ix (mi_sub_u (hu65H hr)) (mv 0) mx_int) (ma_cons (mx_op mo_plus (mv 1) mx_int) ma_nil))))))) (mss_cons (ms_expr (bx_call (Em := E) G_must hr hc D_must.m D_must.k D_must.b (passMB (takesB_of rfl rfl rfl rfl) hw) (ma_cons (mx_and (mx_cmp (mo_in_u (hu65H hr)) (mx_ix (mi_sub_u (hu65H hr)) (mv 0) mx_int) (mx_tup (ma_cons mx_str (ma_cons mx_str (ma_cons mx_str ma_nil)))) rfl) (mx_one (mx_cmp (mo_eqq_u (hu65H hr)) (mx_callB mc_len1 Z.b_len (ma_cons (mv 0) ma_nil)) (mx_if (mt_cmp (mo_eqq_u (hu65H hr)) (mx_ix (mi_sub_u (hu65H hr)) (mv 0) mx_int) mx_str (nomark _)) mx_int mx_int) (nomark _)))) ma_nil)))
    (mss_one (bs_for (passes_of rfl) hc (bi_tup (mx_slice (mv 0) (mo_some mx_int) mo_none)) (mg_name (i := 2) nd rfl (.inl rfl)) (mss_one (ms_expr (bx_call (Em := E) G_need_asked hr hc D_need_asked.m D_need_asked.k D_need_asked.b (passMB (takesB_of rfl rfl rfl rfl) hw) (ma_cons (mv 2) (ma_cons (mx_op mo_plus (mv 1) mx_int) ma_nil))))))))))), ?_⟩
  wtm_at "go"
  refine ⟨d, deep, rfl, hk, ?_⟩
  refine i_ite (fun h1 => ?_) (fun h1 => ?_)
  · obtain ⟨⟨x, r, rfl⟩, h12⟩ := okTup_iff.mp h1
    have hr' : ∀ y ∈ r, Kd m y := fun y hy => hk.tups y (.tail _ hy)
    obtain ⟨n, rfl⟩ : ∃ n', n = n' + 1 := ⟨n - 1, by omega⟩
    wtm_at "go"
    refine i_ite (fun h2 => ?_) (fun h2 => ?_)
    · have h2 := of_decide_eq_true h2; subst h2
      rcases r with _ | ⟨a, _ | ⟨b, _ | ⟨u, l⟩⟩⟩
      · wtm_at "go"; exact hE rfl
      · wtm_at "go"; exact hE rfl
      · wtm_at "go"
        refine ⟨a, _, rfl, hr' a (by simp), by omega, ?_⟩
        refine i_ite (fun h => ?_) (fun h => hE (by simp [okAsked, h]))
        wtm_at "go"
        refine ⟨b, _, rfl, hr' b (by simp), by omega, ?_⟩
        refine i_ite (fun h' => ?_) (fun h' => hE (by simp [okAsked, h']))
        exact hQ (by simp [okAsked, h, h'])
      · wtm_at "go"; exact hE rfl
    · have h2 := of_decide_eq_false h2
      wtm_at "go"
      refine i_in (in_tup rfl rfl) ?_
      rw [asks_any]
      wtm_at "go"
      refine i_ite (fun h4 => ?_) (fun h4 => ?_)
      · by_cases h3 : x = "not"
        · subst h3
          wtm_at "go"
          rcases r with _ | ⟨a, _ | ⟨b, l⟩⟩
          · wtm_at "go"; exact hE (by simp [okAsked, h2])
          · wtm_at "go"
            have hl : okAsked (n + 1) (.tup (.str "not" :: [a])) = ([a]).all (okAsked n) := by simp [okAsked, h2]
            rw [cutL_one']
            refine forC_ind (fun r' ρ M => ∃ (l1 : List D) (x2 : Option D), [a] = l1 ++ r' ∧ (∀ y ∈ l1, okAsked n y = true) ∧ ρ = [some (.tup (.str "not" :: [a])), some (.int deep), x2] ∧ M = m) ⟨[], none, rfl, (fun _ h => (nomatch h)), rfl, rfl⟩ ?_ ?_
            · rintro ρ M ⟨l1, x2, e, hx, rfl, rfl⟩
              refine ⟨trivial, hQ (hl.trans ?_)⟩
              rw [e, List.append_nil, List.all_eq_true]; exact hx
            · rintro d r' ρ M K2 hK ⟨l1, x2, e, hx, rfl, rfl⟩
              refine ⟨trivial, ?_⟩
              wtm_at "go"
              refine ⟨d, _, rfl, hr' d (by rw [e]; simp), by omega, ?_⟩
              refine i_ite (fun h => ?_) (fun h => hE (hl.trans ?_))
              · refine hK _ _ ⟨l1 ++ [d], _, by rw [e]; simp, ?_, rfl, rfl⟩
                intro y hy
                rcases List.mem_append.mp hy with hy | hy
                · exact hx y hy
                · rw [List.mem_singleton.mp hy]; exact h
              · rw [e, Bool.eq_false_iff]
                intro z
                rw [List.all_eq_true.mp z d (by simp)] at h; cases h
          · wtm_at "go"; exact hE (by simp [okAsked, h2])
        · have h5 : (decide (x = "all") || decide (x = "any")) = true := by rw [decide_eq_false h3] at h4; exact h4
          wtm_at "go"
          rcases r with _ | ⟨a, _ | ⟨b, _ | ⟨u, l⟩⟩⟩
          · wtm_at "go"; exact hE (by simp [okAsked, h2, h3])
          · wtm_at "go"; exact hE (by simp [okAsked, h2, h3])
          · wtm_at "go"
            have hl : okAsked (n + 1) (.tup (.str x :: [a, b])) = ([a, b]).all (okAsked n) := by simp [okAsked, h2, h3, h5]
            rw [cutL_one']
            refine forC_ind (fun r' ρ M => ∃ (l1 : List D) (x2 : Option D), [a, b] = l1 ++ r' ∧ (∀ y ∈ l1, okAsked n y = true) ∧ ρ = [some (.tup (.str x :: [a, b])), some (.int deep), x2] ∧ M = m) ⟨[], none, rfl, (fun _ h => (nomatch h)), rfl, rfl⟩ ?_ ?_
            · rintro ρ M ⟨l1, x2, e, hx, rfl, rfl⟩
              refine ⟨trivial, hQ (hl.trans ?_)⟩
              rw [e, List.append_nil, List.all_eq_true]; exact hx
            · rintro d r' ρ M K2 hK ⟨l1, x2, e, hx, rfl, rfl⟩
              refine ⟨trivial, ?_⟩
              wtm_at "go"
              refine ⟨d, _, rfl, hr' d (by rw [e]; simp), by omega, ?_⟩
              refine i_ite (fun h => ?_) (fun h => hE (hl.trans ?_))
              · refine hK _ _ ⟨l1 ++ [d], _, by rw [e]; simp, ?_, rfl, rfl⟩
                intro y hy
                rcases List.mem_append.mp hy with hy | hy
                · exact hx y hy
                · rw [List.mem_singleton.mp hy]; exact h
              · rw [e, Bool.eq_false_iff]
                intro z
                rw [List.all_eq_true.mp z d (by simp)] at h; cases h
          · wtm_at "go"; exact hE (by simp [okAsked, h2, h3])
      · wtm_at "go"
        exact hE (by
          rw [Bool.or_eq_false_iff, Bool.or_eq_false_iff] at h4
          obtain ⟨a1, a2, a3⟩ := h4
          simp only [okAsked, if_neg h2, if_neg (of_decide_eq_false a1), a2, a3]
          split <;> rfl)
  · refine hE (Bool.eq_false_iff.mpr fun h => ?_)
    obtain ⟨h2, h3⟩ := okAsked_sh h
    rw [okTup_iff.mpr ⟨h2, by omega⟩] at h1; cases h1
theorem gfin_need_asked {c : Nat} (V : Gv K mg) (Z : Bl mg) {C : Addr} {f_must : Addr} {fd_must : FuncData} (D_must : Df K mg "must" f_must fd_must ["good"]) (G_must : FnMB P w K mg base (CXB P w) (c) f_must fd_must ["good"] (gMust C)) {f_need_tuple : Addr} {fd_need_tuple : FuncData} (D_need_tuple : Df K mg "need_tuple" f_need_tuple fd_need_tuple ["told", "deep"]) (G_need_tuple : FnMB P w K mg base (CXB P w) (c) f_need_tuple fd_need_tuple ["told", "deep"] (gTup C)) {f_need_told : Addr} {fd_need_told : FuncData} (D_need_told : Df K mg "need_told" f_need_told fd_need_told ["told", "deep"]) (G_need_told : ∀ n, FnMB P w K mg base (CXB P w) (c + n) f_need_told fd_need_told ["told", "deep"] (gFam okTold C n)) {f_need_asked : Addr} {fd_need_asked : FuncData} (D_need_asked : Df K mg "need_asked" f_need_asked fd_need_asked ["asked", "deep"]) (F : Fun K "need_asked" "need_asked" s_need_asked f_need_asked fd_need_asked) : ∀ n, FnMB P w K mg base (CXB P w) (c + n) f_need_asked fd_need_asked ["asked", "deep"] (gFam okAsked C n)
  | 0 => fn_noneB fun ds m Q E h => h
  | n + 1 => gok_need_asked V Z D_must (G_must.mono (Nat.le_add_right c n)) D_need_tuple (G_need_tuple.mono (Nat.le_add_right c n)) D_need_told (G_need_told n) D_need_asked (gfin_need_asked V Z D_must G_must D_need_tuple G_need_tuple D_need_told G_need_told D_need_asked F n) F
def innOf (x : Str) (r : List D) : Option (List D) :=
  if x = "none" then some [] else if x = "give" then some []
  else if x = "both" then (match r with | [a, b] => some [a, b] | _ => none)
  else if x = "if" then (match r with | [_, a, b] => some [a, b] | _ => none)
  else match r with | [_, c] => some [c] | [_, _, c] => some [c] | _ => none
def gWithin : SpM := fun ds m Q _ => ∃ (x : Str) (r inn : List D), ds = [.tup (.str x :: r)] ∧ innOf x r = some inn ∧ newO (.lst inn) m Q
abbrev s_within : Stmt := topS 23
theorem sc_within : FnScope ["contract", "word"] ["contract"] (defScope s_within) := ⟨rfl, rfl, rfl, by decide +kernel, rfl, by decide +kernel, by decide +kernel⟩
theorem gok_within {k : Nat} {f_within : Addr} {fd_within : FuncData} (F : Fun K "within" "within" s_within f_within fd_within) : FnMB P w K mg base CX0 (k + 1) f_within fd_within ["contract"] (gWithin) := by
  refine fn_mB F sc_within (fun ds m Q E h => ?_) (fun cdv A outer s H ds m Q E E' l hc hr h => ?_)
  · obtain ⟨x, r, inn, rfl, _⟩ := h; rfl
  have nd := sc_within.nd
  obtain ⟨x, r, inn, rfl, hi, q⟩ := h
  refine ⟨_, (mss_cons (ms_set (i := 1) nd rfl (.inl rfl) (mx_ix (mi_sub_u (hu65H hr)) (mv 0) mx_int))
    (mss_cons (ms_if (mw_pt (mw_or (mt_cmp (mo_eqq_u (hu65H hr)) (mv 1) mx_str (nomark _)) (mw_or1 (mt_cmp (mo_eqq_u (hu65H hr)) (mv 1) mx_str (nomark _))))) (mss_one (ms_ret (mx_lst ma_nil))) mss_nil)
    (mss_cons (ms_if (mt_cmp (mo_eqq_u (hu65H hr)) (mv 1) mx_str (nomark _)) (mss_one (ms_ret (mx_lst (ma_cons (mx_ix (mi_sub_u (hu65H hr)) (mv 0) mx_int) (ma_cons (mx_ix (mi_sub_u (hu65H hr)) (mv 0) mx_int) ma_nil))))) mss_nil)
    (mss_cons (ms_if (mt_cmp (mo_eqq_u (hu65H hr)) (mv 1) mx_str (nomark _)) (mss_one (ms_ret (mx_lst (ma_cons (mx_ix (mi_sub_u (hu65H hr)) (mv 0) mx_int) (ma_cons (mx_ix (mi_sub_u (hu65H hr)) (mv 0) mx_int) ma_nil))))) mss_nil)
    (mss_one (ms_ret (mx_lst (ma_cons (mx_ix (mi_sub_u (hu65H hr)) (mv 0) (mx_neg mx_int)) ma_nil)))))))), ?_⟩
  by_cases h1 : x = "none"
  · subst h1; cases hi
    wtm_at "go"; intro p hp; exact RtM.mk (q p hp)
  by_cases h2 : x = "give"
  · subst h2; cases hi
    wtm_at "go"; intro p hp; exact RtM.mk (q p hp)
  by_cases h3 : x = "both"
  · subst h3
    simp only [innOf, if_neg h1, if_neg h2, if_true] at hi
    split at hi
    · cases hi
      wtm_at "go"; intro p hp; exact RtM.mk (q p hp)
    · cases hi
  by_cases h4 : x = "if"
  · subst h4
    simp only [innOf, if_neg h1, if_neg h2, if_neg h3, if_true] at hi
    split at hi
    · cases hi
      wtm_at "go"; intro p hp; exact RtM.mk (q p hp)
    · cases hi
  simp only [innOf, if_neg h1, if_neg h2, if_neg h3, if_neg h4] at hi
  split at hi
  · cases hi
    wtm_at "go"; intro p hp; exact RtM.mk (q p hp)
  · cases hi
    wtm_at "go"; intro p hp; exact RtM.mk (q p hp)
  · cases hi
def chkC (n : Nat) (x : Str) (r : List D) : Bool :=
  if x = "give" then (match r with | [a, b, g, t] => okWord g && okSides a b && okTold n t | _ => false)
  else if x = "turned" then (match r with | [a, b, _] => okSides a b | _ => false)
  else if x = "later" then (match r with | [h, _] => okNum 0 99 h | _ => false)
  else if x = "often" then (match r with | [k, h, _] => okNum 1 9 k && okNum 1 99 h | _ => false)
  else if x = "if" then (match r with | [q, _, _] => okAsked n q | _ => false)
  else if x = "when" then (match r with | [q, _] => okAsked n q | _ => false)
  else if x = "until" then (match r with | [q, _] => okAsked n q | _ => false)
  else if x = "both" then decide (r.length = 2)
  else decide (x = "none") && r.isEmpty
theorem okCon_chk {n : Nat} {x : Str} {r : List D} : okCon (n + 1) (.tup (.str x :: r)) = match innOf x r with | some inn => chkC n x r && inn.all (okCon n) | none => false := by
  have w : ∀ a b : String, a ≠ b → Str.ofString a ≠ Str.ofString b := fun a b h e => h (ofString_inj.mp e)
  by_cases h1 : x = "give"
  · subst h1
    rcases r with _ | ⟨a, _ | ⟨b, _ | ⟨g, _ | ⟨t, _ | ⟨u, l⟩⟩⟩⟩⟩ <;> simp [okCon, innOf, chkC, ofString_inj]
  by_cases h2 : x = "turned"
  · subst h2
    rcases r with _ | ⟨a, _ | ⟨b, _ | ⟨g, _ | ⟨t, l⟩⟩⟩⟩ <;> simp [okCon, innOf, chkC, ofString_inj]
  by_cases h3 : x = "later"
  · subst h3
    rcases r with _ | ⟨a, _ | ⟨b, _ | ⟨g, _ | ⟨t, l⟩⟩⟩⟩ <;> simp [okCon, innOf, chkC, ofString_inj]
  by_cases h4 : x = "often"
  · subst h4
    rcases r with _ | ⟨a, _ | ⟨b, _ | ⟨g, _ | ⟨t, l⟩⟩⟩⟩ <;> simp [okCon, innOf, chkC, ofString_inj]
  by_cases h5 : x = "if"
  · subst h5
    rcases r with _ | ⟨a, _ | ⟨b, _ | ⟨g, _ | ⟨t, l⟩⟩⟩⟩ <;> simp [okCon, innOf, chkC, ofString_inj, Bool.and_assoc]
  by_cases h6 : x = "when"
  · subst h6
    rcases r with _ | ⟨a, _ | ⟨b, _ | ⟨g, _ | ⟨t, l⟩⟩⟩⟩ <;> simp [okCon, innOf, chkC, ofString_inj]
  by_cases h7 : x = "until"
  · subst h7
    rcases r with _ | ⟨a, _ | ⟨b, _ | ⟨g, _ | ⟨t, l⟩⟩⟩⟩ <;> simp [okCon, innOf, chkC, ofString_inj]
  by_cases h8 : x = "both"
  · subst h8
    rcases r with _ | ⟨a, _ | ⟨b, _ | ⟨g, _ | ⟨t, l⟩⟩⟩⟩ <;> simp [okCon, innOf, chkC, ofString_inj]
  by_cases h9 : x = "none"
  · subst h9
    rcases r with _ | ⟨a, l⟩ <;> simp [okCon, innOf, chkC, ofString_inj]
  simp only [okCon, innOf, chkC, if_neg h1, if_neg h2, if_neg h3, if_neg h4, if_neg h5, if_neg h6, if_neg h7, if_neg h8, if_neg h9, decide_eq_false h9, Bool.false_and]
  split <;> rfl
theorem chkC_inn {n : Nat} {x : Str} {r : List D} (h : chkC n x r = true) : ∃ inn, innOf x r = some inn ∧ ∀ y ∈ inn, y ∈ r := by
  unfold chkC at h
  split at h
  · rename_i e; subst e; exact ⟨[], by simp [innOf, ofString_inj], by simp⟩
  split at h
  · rename_i e; subst e; split at h
    · exact ⟨_, by simp [innOf, ofString_inj]; rfl, by simp⟩
    · cases h
  split at h
  · rename_i e; subst e; split at h
    · exact ⟨_, by simp [innOf, ofString_inj]; rfl, by simp⟩
    · cases h
  split at h
  · rename_i e; subst e; split at h
    · exact ⟨_, by simp [innOf, ofString_inj]; rfl, by simp⟩
    · cases h
  split at h
  · rename_i e; subst e; split at h
    · exact ⟨_, by simp [innOf, ofString_inj]; rfl, by simp⟩
    · cases h
  split at h
  · rename_i e; subst e; split at h
    · exact ⟨_, by simp [innOf, ofString_inj]; rfl, by simp⟩
    · cases h
  split at h
  · rename_i e; subst e; split at h
    · exact ⟨_, by simp [innOf, ofString_inj]; rfl, by simp⟩
    · cases h
  split at h
  · rename_i e; subst e
    match r, h with
    | [a, b], _ => exact ⟨_, by simp [innOf, ofString_inj]; rfl, by simp⟩
  · rw [Bool.and_eq_true] at h
    rw [of_decide_eq_true h.1]
    exact ⟨[], by simp [innOf], by simp⟩
theorem nx_mk' {n : StM → Mem → Prop} {rt : KM} {bk ct : StM → Mem → Prop} {ρ : StM} {m : Mem} (h : n ρ m) : EndsM.nx ⟨n, rt, bk, ct⟩ ρ m := h
abbrev s_look : Stmt := topS 21
theorem sc_look : FnScope ["contract", "deep", "word", "inner"] ["contract", "deep"] (defScope s_look) := ⟨rfl, rfl, rfl, by decide +kernel, rfl, by decide +kernel, by decide +kernel⟩
theorem gok_look {k n : Nat} (V : Gv K mg) (Z : Bl mg) {c : Addr} {f_must : Addr} {fd_must : FuncData} (D_must : Df K mg "must" f_must fd_must ["good"]) (G_must : FnMB P w K mg base (CXB P w) (k) f_must fd_must ["good"] (gMust c)) {f_need_tuple : Addr} {fd_need_tuple : FuncData} (D_need_tuple : Df K mg "need_tuple" f_need_tuple fd_need_tuple ["told", "deep"]) (G_need_tuple : FnMB P w K mg base (CXB P w) (k) f_need_tuple fd_need_tuple ["told", "deep"] (gTup c)) {f_need_number : Addr} {fd_need_number : FuncData} (D_need_number : Df K mg "need_number" f_need_number fd_need_number ["number", "least", "most"]) (G_need_number : FnMB P w K mg base (CXB P w) (k) f_need_number fd_need_number ["number", "least", "most"] (gNum c)) {f_is_word : Addr} {fd_is_word : FuncData} (D_is_word : Df K mg "is_word" f_is_word fd_is_word ["word"]) (G_is_word : FnMB P w K mg base CX0 (k) f_is_word fd_is_word ["word"] (gWord)) {f_need_sides : Addr} {fd_need_sides : FuncData} (D_need_sides : Df K mg "need_sides" f_need_sides fd_need_sides ["one", "other"]) (G_need_sides : FnMB P w K mg base (CXB P w) (k) f_need_sides fd_need_sides ["one", "other"] (gSides c)) {f_need_told : Addr} {fd_need_told : FuncData} (D_need_told : Df K mg "need_told" f_need_told fd_need_told ["told", "deep"]) (G_need_told : FnMB P w K mg base (CXB P w) (k) f_need_told fd_need_told ["told", "deep"] (gFam okTold c n)) {f_need_asked : Addr} {fd_need_asked : FuncData} (D_need_asked : Df K mg "need_asked" f_need_asked fd_need_asked ["asked", "deep"]) (G_need_asked : FnMB P w K mg base (CXB P w) (k) f_need_asked fd_need_asked ["asked", "deep"] (gFam okAsked c n)) {f_within : Addr} {fd_within : FuncData} (D_within : Df K mg "within" f_within fd_within ["contract"]) (G_within : FnMB P w K mg base CX0 (k) f_within fd_within ["contract"] (gWithin)) {f_look : Addr} {fd_look : FuncData} (D_look : Df K mg "look" f_look fd_look ["contract", "deep"]) (G_look : FnMB P w K mg base (CXB P w) (k) f_look fd_look ["contract", "deep"] (gFam okCon c n)) (F : Fun K "look" "look" s_look f_look fd_look) : FnMB P w K mg base (CXB P w) (k + 1) f_look fd_look ["contract", "deep"] (gFam okCon c (n + 1)) := by
  refine fn_mXB F sc_look (fun ds m Q E h => ?_) (fun cdv A outer s H ds m Q E E' l hc hr h hw => ?_)
  · obtain ⟨t, deep, rfl, _⟩ := h; rfl
  have nd := sc_look.nd
  obtain ⟨d, deep, rfl, hk, hd, q⟩ := h
  have hE : okCon n d = false → E c m := fun e => by rw [e] at q; exact q
  have hQ : okCon n d = true → RtM Q .non m := fun e => by rw [e] at q; exact RtM.mk q
  clear q
  refine ⟨_, (mss_cons (ms_expr (bx_call (Em := E) G_need_tuple hr hc D_need_tuple.m D_need_tuple.k D_need_tuple.b (passMB (takesB_of rfl rfl rfl rfl) hw) (ma_cons (mv 0) (ma_cons (mv 1) ma_nil))))
    (mss_cons (ms_set (i := 2) nd rfl (.inl rfl) (mx_ix (mi_sub_u (hu65H hr)) (mv 0) mx_int))
    (mss_cons (ms_if (mt_cmp (mo_eqq_u (hu65H hr)) (mv 2) mx_str (nomark _)) (mss_cons (ms_expr (bx_call (Em := E) G_must hr hc D_must.m D_must.k D_must.b (passMB (takesB_of rfl rfl rfl rfl) hw) (ma_cons (mx_and (mx_cmp (mo_eqq_u (hu65H hr)) (mx_callB mc_len1 Z.b_len (ma_cons (mv 0) ma_nil)) mx_int (nomark _)) (mx_one (bx_call (Em := noX) G_is_word hr hc D_is_word.m D_is_word.k D_is_word.b pass0M (ma_cons (mx_ix (mi_sub_u (hu65H hr)) (mv 0) mx_int) ma_nil)))) ma_nil)))
    (mss_cons (ms_expr (bx_call (Em := E) G_need_sides hr hc D_need_sides.m D_need_sides.k D_need_sides.b (passMB (takesB_of rfl rfl rfl rfl) hw) (ma_cons (mx_ix (mi_sub_u (hu65H hr)) (mv 0) mx_int) (ma_cons (mx_ix (mi_sub_u (hu65H hr)) (mv 0) mx_int) ma_nil))))
    (mss_one (ms_expr (bx_call (Em := E) G_need_told hr hc D_need_told.m D_need_told.k D_need_told.b (passMB (takesB_of rfl rfl rfl rfl) hw) (ma_cons (mx_ix (mi_sub_u (hu65H hr)) (mv 0) mx_int) (ma_cons (mx_op mo_plus (mv 1) mx_int) ma_nil))))))) (mss_one (ms_if (mt_cmp (mo_eqq_u (hu65H hr)) (mv 2) mx_str (nomark _)) (mss_cons (ms_expr (bx_call (Em := E) G_must hr hc D_must.m D_must.k D_must.b (passMB (takesB_of rfl rfl rfl rfl) hw) (ma_cons (mx_cmp (mo_eqq_u (hu65H hr)) (mx_callB mc_len1 Z.b_len (ma_cons (mv 0) ma_nil)) mx_int (nomark _)) ma_nil)))
    (mss_one (ms_expr (bx_call (Em := E) G_need_sides hr hc D_need_sides.m D_need_sides.k D_need_sides.b (passMB (takesB_of rfl rfl rfl rfl) hw) (ma_cons (mx_ix (mi_sub_u (hu65H hr)) (mv 0) mx_int) (ma_cons (mx_ix (mi_sub_u (hu65H hr)) (mv 0) mx_int) ma_nil)))))) (mss_one (ms_if (mt_cmp (mo_eqq_u (hu65H hr)) (mv 2) mx_str (nomark _)) (mss_cons (ms_expr (bx_call (Em := E) G_must hr hc D_must.m D_must.k D_must.b (passMB (takesB_of rfl rfl rfl rfl) hw) (ma_cons (mx_cmp (mo_eqq_u (hu65H hr)) (mx_callB mc_len1 Z.b_len (ma_cons (mv 0) ma_nil)) mx_int (nomark _)) ma_nil)))
    (mss_one (ms_expr (bx_call (Em := E) G_need_number hr hc D_need_number.m D_need_number.k D_need_number.b (passMB (takesB_of rfl rfl rfl rfl) hw) (ma_cons (mx_ix (mi_sub_u (hu65H hr)) (mv 0) mx_int) (ma_cons mx_int (ma_cons (mx_gt V.MOST_HOURS) ma_nil))))))) (mss_one (ms_if (mt_cmp (mo_eqq_u (hu65H hr)) (mv 2) mx_str (nomark _)) (mss_cons (ms_expr (bx_call (Em := E) G_must hr hc D_must.m D_must.k D_must.b (passMB (takesB_of rfl rfl rfl rfl) hw) (ma_cons (mx_cmp (mo_eqq_u (hu65H hr)) (mx_callB mc_len1 Z.b_len (ma_cons (mv 0) ma_nil)) mx_int (nomark _)) ma_nil)))
    (mss_cons (ms_expr (bx_call (Em := E) G_need_number hr hc D_need_number.m D_need_number.k D_need_number.b (passMB (takesB_of rfl rfl rfl rfl) hw) (ma_cons (mx_ix (mi_sub_u (hu65H hr)) (mv 0) mx_int) (ma_cons mx_int (ma_cons (mx_gt V.MOST_OFTEN) ma_nil)))))
    (mss_one (ms_expr (bx_call (Em := E) G_need_number hr hc D_need_number.m D_need_number.k D_need_number.b (passMB (takesB_of rfl rfl rfl rfl) hw) (ma_cons (mx_ix (mi_sub_u (hu65H hr)) (mv 0) mx_int) (ma_cons mx_int (ma_cons (mx_gt V.MOST_HOURS) ma_nil)))))))) (mss_one (ms_if (mt_cmp (mo_in_u (hu65H hr)) (mv 2) (mx_tup (ma_cons mx_str (ma_cons mx_str (ma_cons mx_str ma_nil)))) rfl) (mss_cons (ms_expr (bx_call (Em := E) G_must hr hc D_must.m D_must.k D_must.b (passMB (takesB_of rfl rfl rfl rfl) hw) (ma_cons (mx_cmp (mo_eqq_u (hu65H hr)) (mx_callB mc_len1 Z.b_len (ma_cons (mv 0) ma_nil)) (mx_if (mt_cmp (mo_eqq_u (hu65H hr)) (mv 2) mx_str (nomark _)) mx_int mx_int) (nomark _)) ma_nil)))
    (mss_one (ms_expr (bx_call (Em := E) G_need_asked hr hc D_need_asked.m D_need_asked.k D_need_asked.b (passMB (takesB_of rfl rfl rfl rfl) hw) (ma_cons (mx_ix (mi_sub_u (hu65H hr)) (mv 0) mx_int) (ma_cons (mx_op mo_plus (mv 1) mx_int) ma_nil)))))) (mss_one (ms_expr (bx_call (Em := E) G_must hr hc D_must.m D_must.k D_must.b (passMB (takesB_of rfl rfl rfl rfl) hw) (ma_cons (mx_or (mx_and (mx_cmp (mo_eqq_u (hu65H hr)) (mv 2) mx_str (nomark _)) (mx_one (mx_cmp (mo_eqq_u (hu65H hr)) (mx_callB mc_len1 Z.b_len (ma_cons (mv 0) ma_nil)) mx_int (nomark _)))) (mx_one (mx_cmp (mo_eqM_u (hu65H hr)) (mv 0) (mx_gt V.NONE) (nomark _)))) ma_nil)))))))))))))
    (mss_one (bs_for (passes_of rfl) hc (bi_hid (bx_call (Em := noX) G_within hr hc D_within.m D_within.k D_within.b pass0M (ma_cons (mv 0) ma_nil))) (mg_name (i := 3) nd rfl (.inl rfl)) (mss_one (ms_expr (bx_call (Em := E) G_look hr hc D_look.m D_look.k D_look.b (passMB (takesB_of rfl rfl rfl rfl) hw) (ma_cons (mv 3) (ma_cons (mx_op mo_plus (mv 1) mx_int) ma_nil)))))))))), ?_⟩
  wtm_at "go"
  refine ⟨d, deep, rfl, hk, ?_⟩
  refine i_ite (fun h1 => ?_) (fun h1 => ?_)
  · obtain ⟨⟨x, r, rfl⟩, h12⟩ := okTup_iff.mp h1
    have hr' : ∀ y ∈ r, Kd m y := fun y hy => hk.tups y (.tail _ hy)
    obtain ⟨n, rfl⟩ : ∃ n', n = n' + 1 := ⟨n - 1, by omega⟩
    refine nx_mk' ?_
    with_reducible refine i_seqO (R := fun ρ' m' => ρ' = [some (.tup (.str x :: r)), some (.int deep), some (.str x), none] ∧ m = m') ?_ ?_
    rotate_left
    · intro N hN
      wtm_at "go"
      exact hN _ _ ⟨rfl, rfl⟩
    rintro ρ0 m0 ⟨rfl, rfl⟩
    with_reducible refine i_seqO (R := fun ρ' m' => ρ' = [some (.tup (.str x :: r)), some (.int deep), some (.str x), none] ∧ m = m' ∧ chkC n x r = true) ?_ ?_
    · rintro ρ' m' ⟨rfl, rfl, hc⟩
      obtain ⟨inn, hi, hin⟩ := chkC_inn hc
      have hl : okCon (n + 1) (.tup (.str x :: r)) = inn.all (okCon n) := by rw [okCon_chk, hi]; simp [hc]
      wtm_at "go"
      refine ⟨x, r, inn, rfl, hi, fun p hp => ?_⟩
      wtm_at "go"
      refine ⟨_, _, rd_L mput_same, Sub.refl.new hp, .inl hp, ?_⟩
      refine forC_ind (fun r' ρ M => ∃ (l1 : List D) (x3 : Option D), inn = l1 ++ r' ∧ (∀ y ∈ l1, okCon n y = true) ∧ ρ = [some (.tup (.str x :: r)), some (.int deep), some (.str x), x3] ∧ M = m) ⟨[], none, rfl, (fun _ h => (nomatch h)), rfl, rfl⟩ ?_ ?_
      · rintro ρ M ⟨l1, x2, e, hx, rfl, rfl⟩
        refine ⟨trivial, hQ (hl.trans ?_)⟩
        rw [e, List.append_nil, List.all_eq_true]; exact hx
      · rintro d r' ρ M K2 hK ⟨l1, x2, e, hx, rfl, rfl⟩
        refine ⟨trivial, ?_⟩
        wtm_at "go"
        refine ⟨d, _, rfl, hr' d (hin d (by rw [e]; simp)), by omega, ?_⟩
        refine i_ite (fun h => ?_) (fun h => hE (hl.trans ?_))
        · refine hK _ _ ⟨l1 ++ [d], _, by rw [e]; simp, ?_, rfl, rfl⟩
          intro y hy
          rcases List.mem_append.mp hy with hy | hy
          · exact hx y hy
          · rw [List.mem_singleton.mp hy]; exact h
        · rw [e, Bool.eq_false_iff]
          intro z
          rw [List.all_eq_true.mp z d (by simp)] at h; cases h
    intro N hN
    have hE' : chkC n x r = false → E c m := fun e => hE (by rw [okCon_chk]; split <;> simp [e])
    clear hQ hE
    by_cases h_give : x = "give"
    · subst h_give
      rcases r with _ | ⟨a, _ | ⟨b, _ | ⟨g, _ | ⟨t, _ | ⟨u9, l9⟩⟩⟩⟩⟩
      · wtm_at "go"; exact hE' (by simp [chkC, ofString_inj])
      · wtm_at "go"; exact hE' (by simp [chkC, ofString_inj])
      · wtm_at "go"; exact hE' (by simp [chkC, ofString_inj])
      · wtm_at "go"; exact hE' (by simp [chkC, ofString_inj])
      · wtm_at "go"
        refine ⟨g, rfl, hr' g (by simp), ?_⟩
        wtm_at "go"
        refine i_ite (fun h1 => ?_) (fun h1 => hE' (by simp [chkC, ofString_inj, h1]))
        wtm_at "go"
        refine ⟨a, b, rfl, hr' a (by simp), hr' b (by simp), ?_⟩
        refine i_ite (fun h2 => ?_) (fun h2 => hE' (by simp [chkC, ofString_inj, h2]))
        wtm_at "go"
        refine ⟨t, _, rfl, hr' t (by simp), by omega, ?_⟩
        refine i_ite (fun h3 => ?_) (fun h3 => hE' (by simp [chkC, ofString_inj, h3]))
        exact hN _ _ ⟨rfl, rfl, by simp [chkC, ofString_inj, h1, h2, h3]⟩
      · wtm_at "go"; exact hE' (by simp [chkC, ofString_inj])
    by_cases h_turned : x = "turned"
    · subst h_turned
      rcases r with _ | ⟨a, _ | ⟨b, _ | ⟨g, _ | ⟨u9, l9⟩⟩⟩⟩
      · wtm_at "go"; exact hE' (by simp [chkC, ofString_inj])
      · wtm_at "go"; exact hE' (by simp [chkC, ofString_inj])
      · wtm_at "go"; exact hE' (by simp [chkC, ofString_inj])
      · wtm_at "go"
        refine ⟨a, b, rfl, hr' a (by simp), hr' b (by simp), ?_⟩
        refine i_ite (fun h2 => ?_) (fun h2 => hE' (by simp [chkC, ofString_inj, h2]))
        exact hN _ _ ⟨rfl, rfl, by simp [chkC, ofString_inj, h2]⟩
      · wtm_at "go"; exact hE' (by simp [chkC, ofString_inj])
    by_cases h_later : x = "later"
    · subst h_later
      rcases r with _ | ⟨a, _ | ⟨b, _ | ⟨u9, l9⟩⟩⟩
      · wtm_at "go"; exact hE' (by simp [chkC, ofString_inj])
      · wtm_at "go"; exact hE' (by simp [chkC, ofString_inj])
      · wtm_at "go"
        refine ⟨a, _, _, rfl, hr' a (by simp), ?_⟩
        refine i_ite (fun h1 => ?_) (fun h1 => hE' (by simp [chkC, ofString_inj, h1]))
        exact hN _ _ ⟨rfl, rfl, by simp [chkC, ofString_inj, h1]⟩
      · wtm_at "go"; exact hE' (by simp [chkC, ofString_inj])
    by_cases h_often : x = "often"
    · subst h_often
      rcases r with _ | ⟨a, _ | ⟨b, _ | ⟨g, _ | ⟨u9, l9⟩⟩⟩⟩
      · wtm_at "go"; exact hE' (by simp [chkC, ofString_inj])
      · wtm_at "go"; exact hE' (by simp [chkC, ofString_inj])
      · wtm_at "go"; exact hE' (by simp [chkC, ofString_inj])
      · wtm_at "go"
        refine ⟨a, _, _, rfl, hr' a (by simp), ?_⟩
        refine i_ite (fun h1 => ?_) (fun h1 => hE' (by simp [chkC, ofString_inj, h1]))
        wtm_at "go"
        refine ⟨b, _, _, rfl, hr' b (by simp), ?_⟩
        refine i_ite (fun h2 => ?_) (fun h2 => hE' (by simp [chkC, ofString_inj, h2]))
        exact hN _ _ ⟨rfl, rfl, by simp [chkC, ofString_inj, h1, h2]⟩
      · wtm_at "go"; exact hE' (by simp [chkC, ofString_inj])
    by_cases h_if : x = "if"
    · subst h_if
      wtm_at "go"
      refine i_in (in_tup rfl rfl) ?_
      rw [ifs_any]
      wtm_at "go"
      rcases r with _ | ⟨a, _ | ⟨b, _ | ⟨g, _ | ⟨u9, l9⟩⟩⟩⟩
      · wtm_at "go"; exact hE' (by simp [chkC, ofString_inj])
      · wtm_at "go"; exact hE' (by simp [chkC, ofString_inj])
      · wtm_at "go"; exact hE' (by simp [chkC, ofString_inj])
      · wtm_at "go"
        refine ⟨a, _, rfl, hr' a (by simp), by omega, ?_⟩
        refine i_ite (fun h1 => ?_) (fun h1 => hE' (by simp [chkC, ofString_inj, h1]))
        exact hN _ _ ⟨rfl, rfl, by simp [chkC, ofString_inj, h1]⟩
      · wtm_at "go"; exact hE' (by simp [chkC, ofString_inj])
    by_cases h_when : x = "when"
    · subst h_when
      wtm_at "go"
      refine i_in (in_tup rfl rfl) ?_
      rw [ifs_any]
      wtm_at "go"
      rcases r with _ | ⟨a, _ | ⟨b, _ | ⟨u9, l9⟩⟩⟩
      · wtm_at "go"; exact hE' (by simp [chkC, ofString_inj])
      · wtm_at "go"; exact hE' (by simp [chkC, ofString_inj])
      · wtm_at "go"
        refine ⟨a, _, rfl, hr' a (by simp), by omega, ?_⟩
        refine i_ite (fun h1 => ?_) (fun h1 => hE' (by simp [chkC, ofString_inj, h1]))
        exact hN _ _ ⟨rfl, rfl, by simp [chkC, ofString_inj, h1]⟩
      · wtm_at "go"; exact hE' (by simp [chkC, ofString_inj])
    by_cases h_until : x = "until"
    · subst h_until
      wtm_at "go"
      refine i_in (in_tup rfl rfl) ?_
      rw [ifs_any]
      wtm_at "go"
      rcases r with _ | ⟨a, _ | ⟨b, _ | ⟨u9, l9⟩⟩⟩
      · wtm_at "go"; exact hE' (by simp [chkC, ofString_inj])
      · wtm_at "go"; exact hE' (by simp [chkC, ofString_inj])
      · wtm_at "go"
        refine ⟨a, _, rfl, hr' a (by simp), by omega, ?_⟩
        refine i_ite (fun h1 => ?_) (fun h1 => hE' (by simp [chkC, ofString_inj, h1]))
        exact hN _ _ ⟨rfl, rfl, by simp [chkC, ofString_inj, h1]⟩
      · wtm_at "go"; exact hE' (by simp [chkC, ofString_inj])
    by_cases h_both : x = "both"
    · subst h_both
      wtm_at "go"
      refine i_in (in_tup rfl rfl) ?_
      rw [ifs_any]
      wtm_at "go"
      rcases r with _ | ⟨a, _ | ⟨b, _ | ⟨u, l⟩⟩⟩
      · wtm_at "go"
        refine i_eqM (eqM_none hk (by decide +kernel)) ?_
        wtm_at "go"
        exact hE' (by simp [chkC, ofString_inj])
      · wtm_at "go"
        refine i_eqM (eqM_none hk (by decide +kernel)) ?_
        wtm_at "go"
        exact hE' (by simp [chkC, ofString_inj])
      · wtm_at "go"
        exact hN _ _ ⟨rfl, rfl, by simp [chkC, ofString_inj]⟩
      · wtm_at "go"
        refine i_eqM (eqM_none hk (by decide +kernel)) ?_
        wtm_at "go"
        exact hE' (by simp [chkC, ofString_inj])
    have hc : chkC n x r = (decide (x = "none") && r.isEmpty) := by simp only [chkC, if_neg h_give, if_neg h_turned, if_neg h_later, if_neg h_often, if_neg h_if, if_neg h_when, if_neg h_until, if_neg h_both]
    wtm_at "go"
    refine i_in (in_tup rfl rfl) ?_
    rw [ifs_any, decide_eq_false h_if, decide_eq_false h_when, decide_eq_false h_until]
    wtm_at "go"
    refine i_eqM (eqM_none hk (by decide +kernel)) ?_
    wtm_at "go"
    refine i_ite (fun h => ?_) (fun h => hE' (hc.trans h))
    exact hN _ _ ⟨rfl, rfl, hc.trans h⟩
  · refine hE (Bool.eq_false_iff.mpr fun h => ?_)
    obtain ⟨h2, h3⟩ := okCon_sh h
    rw [okTup_iff.mpr ⟨h2, by omega⟩] at h1; cases h1
theorem gfin_look {c : Nat} (V : Gv K mg) (Z : Bl mg) {C : Addr} {f_must : Addr} {fd_must : FuncData} (D_must : Df K mg "must" f_must fd_must ["good"]) (G_must : FnMB P w K mg base (CXB P w) (c) f_must fd_must ["good"] (gMust C)) {f_need_tuple : Addr} {fd_need_tuple : FuncData} (D_need_tuple : Df K mg "need_tuple" f_need_tuple fd_need_tuple ["told", "deep"]) (G_need_tuple : FnMB P w K mg base (CXB P w) (c) f_need_tuple fd_need_tuple ["told", "deep"] (gTup C)) {f_need_number : Addr} {fd_need_number : FuncData} (D_need_number : Df K mg "need_number" f_need_number fd_need_number ["number", "least", "most"]) (G_need_number : FnMB P w K mg base (CXB P w) (c) f_need_number fd_need_number ["number", "least", "most"] (gNum C)) {f_is_word : Addr} {fd_is_word : FuncData} (D_is_word : Df K mg "is_word" f_is_word fd_is_word ["word"]) (G_is_word : FnMB P w K mg base CX0 (c) f_is_word fd_is_word ["word"] (gWord)) {f_need_sides : Addr} {fd_need_sides : FuncData} (D_need_sides : Df K mg "need_sides" f_need_sides fd_need_sides ["one", "other"]) (G_need_sides : FnMB P w K mg base (CXB P w) (c) f_need_sides fd_need_sides ["one", "other"] (gSides C)) {f_need_told : Addr} {fd_need_told : FuncData} (D_need_told : Df K mg "need_told" f_need_told fd_need_told ["told", "deep"]) (G_need_told : ∀ n, FnMB P w K mg base (CXB P w) (c + n) f_need_told fd_need_told ["told", "deep"] (gFam okTold C n)) {f_need_asked : Addr} {fd_need_asked : FuncData} (D_need_asked : Df K mg "need_asked" f_need_asked fd_need_asked ["asked", "deep"]) (G_need_asked : ∀ n, FnMB P w K mg base (CXB P w) (c + n) f_need_asked fd_need_asked ["asked", "deep"] (gFam okAsked C n)) {f_within : Addr} {fd_within : FuncData} (D_within : Df K mg "within" f_within fd_within ["contract"]) (G_within : FnMB P w K mg base CX0 (c) f_within fd_within ["contract"] (gWithin)) {f_look : Addr} {fd_look : FuncData} (D_look : Df K mg "look" f_look fd_look ["contract", "deep"]) (F : Fun K "look" "look" s_look f_look fd_look) : ∀ n, FnMB P w K mg base (CXB P w) (c + n) f_look fd_look ["contract", "deep"] (gFam okCon C n)
  | 0 => fn_noneB fun ds m Q E h => h
  | n + 1 => gok_look V Z D_must (G_must.mono (Nat.le_add_right c n)) D_need_tuple (G_need_tuple.mono (Nat.le_add_right c n)) D_need_number (G_need_number.mono (Nat.le_add_right c n)) D_is_word (G_is_word.mono (Nat.le_add_right c n)) D_need_sides (G_need_sides.mono (Nat.le_add_right c n)) D_need_told (G_need_told n) D_need_asked (G_need_asked n) D_within (G_within.mono (Nat.le_add_right c n)) D_look (gfin_look V Z D_must G_must D_need_tuple G_need_tuple D_need_number G_need_number D_is_word G_is_word D_need_sides G_need_sides D_need_told G_need_told D_need_asked G_need_asked D_within G_within D_look F n) F
def gNeedCon (C : Addr) : SpM := fun ds m Q E => ∃ d : D, ds = [d] ∧ Kd m d ∧ if okCon 12 d = true then Q .non m else E C m
abbrev s_need_contract : Stmt := topS 22
theorem sc_need_contract : FnScope ["contract"] ["contract"] (defScope s_need_contract) := ⟨rfl, rfl, rfl, by decide +kernel, rfl, by decide +kernel, by decide +kernel⟩
theorem gok_need_contract {k : Nat} {c : Addr} {f_look : Addr} {fd_look : FuncData} (D_look : Df K mg "look" f_look fd_look ["contract", "deep"]) (G_look : FnMB P w K mg base (CXB P w) (k) f_look fd_look ["contract", "deep"] (gFam okCon c 13)) {f_need_contract : Addr} {fd_need_contract : FuncData} (F : Fun K "need_contract" "need_contract" s_need_contract f_need_contract fd_need_contract) : FnMB P w K mg base (CXB P w) (k + 1) f_need_contract fd_need_contract ["contract"] (gNeedCon c) := by
  refine fn_mXB F sc_need_contract (fun ds m Q E h => ?_) (fun cdv A outer s H ds m Q E E' l hc hr h hw => ?_)
  · obtain ⟨c, rfl, _⟩ := h; rfl
  have nd := sc_need_contract.nd
  obtain ⟨d, rfl, hk, q⟩ := h
  refine ⟨_, (mss_one (ms_expr (bx_call (Em := E) G_look hr hc D_look.m D_look.k D_look.b (passMB (takesB_of rfl rfl rfl rfl) hw) (ma_cons (mv 0) (ma_cons mx_int ma_nil))))), ?_⟩
  wtm_at "go"
  refine ⟨d, 1, rfl, hk, rfl, ?_⟩
  refine i_ite (fun h => ?_) (fun h => ?_)
  · rw [h] at q; exact RtM.mk q
  · rw [h] at q; exact q
theorem foldl_cps {x : Array Nat} : ∀ (k : Nat) (acc : Array Nat), ((List.replicate k x).foldl (· ++ ·) acc).toList = acc.toList ++ (List.replicate k x.toList).flatten
  | 0, acc => by simp
  | k + 1, acc => by rw [List.replicate_succ, List.foldl_cons, foldl_cps k, List.replicate_succ, List.flatten_cons, Array.toList_append, List.append_assoc]
theorem q_cps : (Str.ofString "q").cps = #[113] := by decide +kernel
theorem mul_q {n : Int} (h : 0 ≤ n) : (Txt.mul "q" n).cps.toList = List.replicate n.toNat 113 := by
  unfold Txt.mul
  split
  · have : n = 0 := by omega
    subst this; rfl
  · split
    · rename_i h2
      have h3 : n = 1 := by
        have : (Str.ofString "q").length = 1 := by decide +kernel
        rw [this] at h2
        simpa using h2
      subst h3
      rw [q_cps]; rfl
    · rw [foldl_cps, q_cps]
      have : ∀ k : Nat, (List.replicate k [113]).flatten = List.replicate k 113 := by
        intro k
        induction k with
        | zero => rfl
        | succ k ih => rw [List.replicate_succ, List.flatten_cons, ih, List.replicate_succ]; rfl
      simp [this]
theorem app_cps {a b : Str} : (a ++ b).cps.toList = a.cps.toList ++ b.cps.toList := by
  show (a.cps ++ b.cps).toList = _
  rw [Array.toList_append]
theorem word_cps {s : Dr} (B : DrB s) {k : Int} (h : ¬ (s.talk = 1 ∧ k < 12)) : (wordOf s k).cps.toList = List.replicate s.place.toNat 113 ++ (97 + (k + s.turn) % 26).toNat :: List.replicate (s.size - s.place - 1).toNat 113 := by
  unfold wordOf
  have h1 := B.p0
  have h2 := B.p1
  rw [if_neg h, app_cps, app_cps, mul_q h1, mul_q (by omega)]
  show _ ++ [(97 + (k + s.turn) % 26).toNat] ++ _ = _
  rw [List.append_assoc]; rfl
theorem talk_nd : talkWords.Nodup := by decide +kernel
theorem wordOf_inj {s : Dr} (B : DrB s) {i j : Int} (i0 : 0 ≤ i) (i1 : i < 12) (j0 : 0 ≤ j) (j1 : j < 12) (e : wordOf s i = wordOf s j) : i = j := by
  by_cases h : s.talk = 1
  · unfold wordOf at e
    rw [if_pos ⟨h, i1⟩, if_pos ⟨h, j1⟩] at e
    have l : talkWords.length = 12 := rfl
    have hi : i.toNat < talkWords.length := by omega
    have hj : j.toNat < talkWords.length := by omega
    rw [List.getElem?_eq_getElem hi, List.getElem?_eq_getElem hj] at e
    have := (List.getElem_inj talk_nd (i := i.toNat) (j := j.toNat) (h₀ := hi) (h₁ := hj)).mp e
    omega
  · have e2 := congrArg (fun x : Str => x.cps.toList) e
    rw [word_cps B (fun z => h z.1), word_cps B (fun z => h z.1)] at e2
    have e3 := List.append_cancel_left e2
    have e4 := (List.cons.inj e3).1
    have h1 : (i + s.turn) % 26 < 26 := Int.emod_lt_of_pos _ (by decide)
    have h2 : 0 ≤ (i + s.turn) % 26 := Int.emod_nonneg _ (by decide)
    have h3 : (j + s.turn) % 26 < 26 := Int.emod_lt_of_pos _ (by decide)
    have h4 : 0 ≤ (j + s.turn) % 26 := Int.emod_nonneg _ (by decide)
    have e5 : (i + s.turn) % 26 = (j + s.turn) % 26 := by omega
    omega
def Wd (x : Str) : Prop := 1 ≤ x.length ∧ x.length ≤ 8 ∧ ∀ c ∈ x.cps.toList, c ∈ smallCps
theorem small_mem {n : Nat} (h0 : 97 ≤ n) (h1 : n < 123) : n ∈ smallCps := by
  have h : ∀ k < 26, 97 + k ∈ smallCps := by decide +kernel
  have := h (n - 97) (by omega)
  rwa [show 97 + (n - 97) = n by omega] at this
theorem talk_wd : ∀ x ∈ talkWords, Wd x := by unfold Wd; decide +kernel
theorem word_wd {s : Dr} (B : DrB s) {k : Int} (k0 : 0 ≤ k) : Wd (wordOf s k) := by
  by_cases h : s.talk = 1 ∧ k < 12
  · have e : wordOf s k = (talkWords[k.toNat]?).getD "" := if_pos h
    have hl : k.toNat < talkWords.length := by show _ < 12; omega
    rw [e, List.getElem?_eq_getElem hl]
    exact talk_wd _ (List.getElem_mem hl)
  · have hc := word_cps B h
    have z0 := B.z0
    have z1 := B.z1
    have p0 := B.p0
    have p1 := B.p1
    have h1 : (k + s.turn) % 26 < 26 := Int.emod_lt_of_pos _ (by decide)
    have h2 : 0 ≤ (k + s.turn) % 26 := Int.emod_nonneg _ (by decide)
    have hl : (wordOf s k).length = (wordOf s k).cps.toList.length := (Array.length_toList).symm
    rw [hc, List.length_append, List.length_cons, List.length_replicate, List.length_replicate] at hl
    refine ⟨by omega, by omega, fun c hcm => ?_⟩
    rw [hc] at hcm
    rcases List.mem_append.mp hcm with hcm | hcm
    · have := List.eq_of_mem_replicate hcm
      exact small_mem (by omega) (by omega)
    · rcases List.mem_cons.mp hcm with hcm | hcm
      · exact small_mem (by omega) (by omega)
      · have := List.eq_of_mem_replicate hcm
        exact small_mem (by omega) (by omega)
theorem namesOf_wd {s : Dr} (B : DrB s) {n : Nat} : ∀ x ∈ namesOf s n, Wd x := fun x hx => by
  obtain ⟨j, _, rfl⟩ := List.mem_map.mp hx
  exact word_wd B (by omega)
theorem okWord_wd {x : Str} (h : Wd x) : okWord (.str x) = true := decide_eq_true h
theorem sides_ok {s : Dr} (B : DrB s) {a b : Str} (h : sidesOf (wordOf s) a b) : Wd a ∧ Wd b ∧ okSides (.str a) (.str b) = true := by
  obtain ⟨i, j, i0, i1, j0, j1, ne, rfl, rfl⟩ := h
  have hn : wordOf s i ≠ wordOf s j := fun e => ne (wordOf_inj B i0 (by omega) j0 (by omega) e)
  exact ⟨word_wd B i0, word_wd B j0, by simp [okSides, okWord_wd (word_wd B i0), okWord_wd (word_wd B j0), hn]⟩
theorem okTold_of {nms : List Str} (hn : ∀ x ∈ nms, Wd x) : ∀ {t : Told} {n : Nat}, t.of nms → t.dp < n → okTold n t.d = true
  | .num i, n + 1, h, _ => by
    have h : i.natAbs < 10 ^ 12 := h
    simp only [Told.d, okTold, if_true, okNum, Bool.and_eq_true, decide_eq_true_eq]
    omega
  | .read x, n + 1, h, _ => by
    have : okWord (.str x) = true := okWord_wd (hn x h)
    simp only [Told.d, okTold, ofString_inj, String.reduceEq, if_false, if_true, this]
  | .bin j a b, n + 1, h, hd => by
    have hd : max a.dp b.dp + 1 < n + 1 := hd
    have h1 := okTold_of hn (t := a) (n := n) h.1 (by omega)
    have h2 := okTold_of hn (t := b) (n := n) h.2 (by omega)
    cases j <;> simp [Told.d, Jn.w, okTold, isJoin, ofString_inj, h1, h2]
theorem okAsked_of {nms : List Str} (hn : ∀ x ∈ nms, Wd x) : ∀ {q : Asked} {n : Nat}, q.of nms → q.dp + q.td + 1 < n → okAsked n q.d = true
  | .lt a b, n + 1, h, hd => by
    have hd : 0 + max a.dp b.dp + 1 < n + 1 := hd
    have h1 := okTold_of hn (t := a) (n := n) h.1 (by omega)
    have h2 := okTold_of hn (t := b) (n := n) h.2 (by omega)
    simp [Asked.d, okAsked, h1, h2]
  | .no a, n + 1, h, hd => by
    have hd : a.dp + 1 + a.td + 1 < n + 1 := hd
    have h1 := okAsked_of hn (q := a) (n := n) h (by omega)
    simp [Asked.d, okAsked, ofString_inj, h1]
  | .all a b, n + 1, h, hd => by
    have hd : max a.dp b.dp + 1 + max a.td b.td + 1 < n + 1 := hd
    have h1 := okAsked_of hn (q := a) (n := n) h.1 (by omega)
    have h2 := okAsked_of hn (q := b) (n := n) h.2 (by omega)
    simp [Asked.d, okAsked, ofString_inj, h1, h2]
  | .any a b, n + 1, h, hd => by
    have hd : max a.dp b.dp + 1 + max a.td b.td + 1 < n + 1 := hd
    have h1 := okAsked_of hn (q := a) (n := n) h.1 (by omega)
    have h2 := okAsked_of hn (q := b) (n := n) h.2 (by omega)
    simp [Asked.d, okAsked, ofString_inj, h1, h2]
theorem okCon_of {s : Dr} (B : DrB s) {nms : List Str} (hn : ∀ x ∈ nms, Wd x) : ∀ {c : Con} {n : Nat}, c.of (wordOf s) nms → c.dp + 5 < n → okCon n c.d = true
  | .no, n + 1, _, _ => by simp [Con.d, okCon, ofString_inj]
  | .give a b g t, n + 1, ⟨h1, ⟨l, l0, l1, eg⟩, ht, hd⟩, hl => by
    have h2 := (sides_ok B h1).2.2
    have h3 : okWord (.str g) = true := by rw [eg]; exact okWord_wd (word_wd B (by omega))
    have h4 := okTold_of hn (t := t) (n := n) ht (by omega)
    simp [Con.d, okCon, h2, h3, h4]
  | .both x y, n + 1, h, hl => by
    have hl : max x.dp y.dp + 1 + 5 < n + 1 := hl
    have h1 := okCon_of B hn (c := x) (n := n) h.1 (by omega)
    have h2 := okCon_of B hn (c := y) (n := n) h.2 (by omega)
    simp [Con.d, okCon, ofString_inj, h1, h2]
  | .turned a b x, n + 1, h, hl => by
    have hl : x.dp + 1 + 5 < n + 1 := hl
    have h1 := okCon_of B hn (c := x) (n := n) h.2 (by omega)
    have h2 := (sides_ok B h.1).2.2
    simp [Con.d, okCon, ofString_inj, h1, h2]
  | .later u x, n + 1, h, hl => by
    have hl : x.dp + 1 + 5 < n + 1 := hl
    have h1 := okCon_of B hn (c := x) (n := n) h.2 (by omega)
    have h2 := h.1
    simp [Con.d, okCon, ofString_inj, h1, okNum, h2.1, h2.2]
  | .often u k x, n + 1, h, hl => by
    have hl : x.dp + 1 + 5 < n + 1 := hl
    have h1 := okCon_of B hn (c := x) (n := n) h.2 (by omega)
    have h2 := h.1
    have h3 : k ≤ 99 := by omega
    simp [Con.d, okCon, ofString_inj, h1, okNum, h2.1, h2.2.1, h2.2.2.1, h3]
  | .ite q x y, n + 1, h, hl => by
    have hl : max x.dp y.dp + 1 + 5 < n + 1 := hl
    have h1 := okCon_of B hn (c := x) (n := n) h.2.1 (by omega)
    have h2 := okCon_of B hn (c := y) (n := n) h.2.2 (by omega)
    have h3 := okAsked_of hn (q := q) (n := n) h.1.1 (by have := h.1.2; omega)
    simp [Con.d, okCon, ofString_inj, h1, h2, h3]
  | .when q x, n + 1, h, hl => by
    have hl : x.dp + 1 + 5 < n + 1 := hl
    have h1 := okCon_of B hn (c := x) (n := n) h.2 (by omega)
    have h3 := okAsked_of hn (q := q) (n := n) h.1.1 (by have := h.1.2; omega)
    simp [Con.d, okCon, ofString_inj, h1, h3]
  | .till q x, n + 1, h, hl => by
    have hl : x.dp + 1 + 5 < n + 1 := hl
    have h1 := okCon_of B hn (c := x) (n := n) h.2 (by omega)
    have h3 := okAsked_of hn (q := q) (n := n) h.1.1 (by have := h.1.2; omega)
    simp [Con.d, okCon, ofString_inj, h1, h3]
def SubX (p : Addr) (m M : Mem) : Prop := ∀ b o, m b = some o → b ≠ p → M b = some o
theorem SubX.refl {p : Addr} {m : Mem} : SubX p m m := fun _ _ h _ => h
theorem SubX.trans {p : Addr} {m M N : Mem} (h : SubX p m M) (k : SubX p M N) : SubX p m N := fun b o e ne => k b o (h b o e ne) ne
theorem SubX.here {p : Addr} {m : Mem} {o : O} : SubX p m (mput m p o) := fun b u e ne => by rw [mput_ne ne]; exact e
theorem SubX.put {p a : Addr} {m M : Mem} {o : O} (h : SubX p m M) (n : m a = none) : SubX p m (mput M a o) := fun b u e ne => by
  rw [mput_ne]; exact h b u e ne
  rintro rfl; rw [n] at e; cases e
theorem SubX.rd {p a : Addr} {m M : Mem} {ds : List D} (h : SubX p m M) (e : rdM m a = some (.lst ds)) (hp : ∀ ds, rdM m p ≠ some (.lst ds)) : rdM M a = some (.lst ds) := by
  have ne : a ≠ p := by rintro rfl; exact hp _ e
  unfold rdM at e ⊢
  cases c : m a with
  | none => rw [c] at e; cases e
  | some u => rw [c] at e; rw [h _ _ c ne]; exact e
def skip (r : List Nat) : List Nat := r.dropWhile (· == 32)
theorem skip_b {r : List Nat} : skip (32 :: r) = skip r := rfl
theorem skip_c {c : Nat} {r : List Nat} (h : c ≠ 32) : skip (c :: r) = c :: r := by
  unfold skip
  rw [List.dropWhile_cons_of_neg (by simpa using h)]
theorem skip_head {r : List Nat} : ∀ c q, skip r = c :: q → c ≠ 32 := by
  induction r with
  | nil => intro c q h; cases h
  | cons x r ih =>
    intro c q h
    by_cases e : x = 32
    · subst e; exact ih c q h
    · rw [skip_c e] at h; cases h; exact e
theorem skip_skip {r : List Nat} : skip (skip r) = skip r := by
  cases h : skip r with
  | nil => rfl
  | cons c q => exact skip_c (skip_head c q h)
def sgn : List Nat → Str
  | [] => ⟨#[]⟩
  | c :: _ => ⟨#[c]⟩
def inS (z : Str) (c : Nat) : Bool := decide (c ∈ z.cps.toList)
def strOf (l : List Nat) : Str := ⟨l.toArray⟩
def runP (z : Str) (most : Nat) (r : List Nat) : Option (List Nat × List Nat) :=
  if 1 ≤ ((skip r).takeWhile (inS z)).length ∧ ((skip r).takeWhile (inS z)).length ≤ most then some ((skip r).takeWhile (inS z), (skip r).dropWhile (inS z)) else none
def takesP (c : Nat) (r : List Nat) : Bool × List Nat := match skip r with
  | x :: q => if x = c then (true, q) else (false, x :: q)
  | [] => (false, [])
def needP (c : Nat) (r : List Nat) : Option (List Nat) := if (takesP c r).1 = true then some (takesP c r).2 else none
theorem lkR_hit {f : Str} {d : D} {fs : List (Str × D)} : List.lookup f ((f, d) :: fs) = some d := by simp [List.lookup]
theorem lkR_miss {f g : Str} {d : D} {fs : List (Str × D)} (h : f ≠ g) : List.lookup f ((g, d) :: fs) = List.lookup f fs := by
  rw [List.lookup_cons]
  have : (f == g) = false := by simpa using h
  rw [this]
def rdF (t : Str) (a dp : Nat) : List (Str × D) := [("text", .str t), ("at", .int (a : Int)), ("deep", .int (dp : Int))]
theorem rdF_text {t : Str} {a dp : Nat} : List.lookup ("text" : Str) (rdF t a dp) = some (.str t) := by unfold rdF; rw [lkR_hit]
theorem rdF_at {t : Str} {a dp : Nat} : List.lookup ("at" : Str) (rdF t a dp) = some (.int (a : Int)) := by unfold rdF; rw [lkR_miss (by simp [ofString_inj]), lkR_hit]
theorem rdF_deep {t : Str} {a dp : Nat} : List.lookup ("deep" : Str) (rdF t a dp) = some (.int (dp : Int)) := by unfold rdF; rw [lkR_miss (by simp [ofString_inj]), lkR_miss (by simp [ofString_inj]), lkR_hit]
theorem rdF_no {t f : Str} {a dp : Nat} (h1 : f ≠ "text") (h2 : f ≠ "at") (h3 : f ≠ "deep") : List.lookup f (rdF t a dp) = none := by
  unfold rdF; rw [lkR_miss h1, lkR_miss h2, lkR_miss h3]; rfl
theorem rdF_pat {t : Str} {a dp b : Nat} : putFD "at" (.int (b : Int)) (rdF t a dp) = rdF t b dp := by simp [putFD, rdF, ofString_inj]
theorem rdF_pdeep {t : Str} {a dp b : Nat} : putFD "deep" (.int (b : Int)) (rdF t a dp) = rdF t a b := by simp [putFD, rdF, ofString_inj]
def sg (t : Str) : List Nat := t.cps.toList
structure RdS (C : Addr) (m : Mem) (p : Addr) (t : Str) (a dp : Nat) : Prop where
  e : m p = some (.ins C (rdF t a dp))
  a : a ≤ (sg t).length
  l : (sg t).length ≤ 4000
theorem RdS.put {C p : Addr} {m : Mem} {t : Str} {a dp b : Nat} (h : RdS C m p t a dp) (hb : b ≤ (sg t).length) : RdS C (mput m p (.ins C (rdF t b dp))) p t b dp := ⟨mput_same, hb, h.l⟩
theorem sgn_cut {z : Str} {a : Nat} : cutS z (some (a : Int)) (some ((a : Int) + 1)) = sgn ((sg z).drop a) := by
  have h1 : HT.sIx z.cps.toList.length 0 (some (a : Int)) = min a z.cps.toList.length := by
    show (if (a : Int) < 0 then ((a : Int) + (z.cps.toList.length : Int)).toNat else min (a : Int).toNat z.cps.toList.length) = _
    rw [if_neg (by omega), Int.toNat_natCast]
  have h2 : HT.sIx z.cps.toList.length z.cps.toList.length (some ((a : Int) + 1)) = min (a + 1) z.cps.toList.length := by
    show (if (a : Int) + 1 < 0 then ((a : Int) + 1 + (z.cps.toList.length : Int)).toNat else min ((a : Int) + 1).toNat z.cps.toList.length) = _
    rw [if_neg (by omega)]; congr 1
  show (⟨(cutL z.cps.toList (some (a : Int)) (some ((a : Int) + 1))).toArray⟩ : Str) = _
  unfold cutL
  rw [h1, h2]
  by_cases h : a < z.cps.toList.length
  · rw [Nat.min_eq_left (by omega), Nat.min_eq_left (by omega), show a + 1 - a = 1 by omega]
    unfold sg
    rw [List.drop_eq_getElem_cons h]
    rfl
  · rw [Nat.min_eq_right (by omega), Nat.min_eq_right (by omega), Nat.sub_self]
    unfold sg
    rw [List.drop_eq_nil_of_le (Nat.le_of_not_lt h), List.drop_eq_nil_of_le (Nat.le_refl _)]
    rfl
theorem cut_mid {z : Str} {a b : Nat} (h : a ≤ b) (hb : b ≤ (sg z).length) : cutS z (some (a : Int)) (some (b : Int)) = strOf (((sg z).drop a).take (b - a)) := by
  have h1 : HT.sIx z.cps.toList.length 0 (some (a : Int)) = a := by
    show (if (a : Int) < 0 then ((a : Int) + (z.cps.toList.length : Int)).toNat else min (a : Int).toNat z.cps.toList.length) = _
    unfold sg at hb
    rw [if_neg (by omega), Int.toNat_natCast]; omega
  have h2 : HT.sIx z.cps.toList.length z.cps.toList.length (some (b : Int)) = b := by
    show (if (b : Int) < 0 then ((b : Int) + (z.cps.toList.length : Int)).toNat else min (b : Int).toNat z.cps.toList.length) = _
    unfold sg at hb
    rw [if_neg (by omega), Int.toNat_natCast]; omega
  show (⟨(cutL z.cps.toList (some (a : Int)) (some (b : Int))).toArray⟩ : Str) = _
  unfold cutL
  rw [h1, h2]; rfl
theorem str_len (z : Str) : z.length = (sg z).length := (Array.length_toList).symm
theorem drop_cons {z : Str} {a c : Nat} {q : List Nat} (h : (sg z).drop a = c :: q) : a < (sg z).length ∧ (sg z).drop (a + 1) = q ∧ (sg z)[a]? = some c := by
  have hl : a < (sg z).length := by
    refine Nat.lt_of_not_le fun k => ?_
    rw [List.drop_eq_nil_of_le k] at h; cases h
  rw [List.drop_eq_getElem_cons hl] at h
  injection h with h1 h2
  exact ⟨hl, h2, by rw [← h1]; simp [hl]⟩
theorem sgn_blank {r : List Nat} : decide (sgn r = (" " : Str)) = decide (r.head? = some 32) := by
  cases r with
  | nil => rfl
  | cons c q =>
    rw [decide_eq_decide, show sgn (c :: q) = ⟨#[c]⟩ from rfl, show (" " : Str) = ⟨#[32]⟩ from by decide +kernel]
    simp
theorem sgn_ne {c : Nat} {r : List Nat} : decide (sgn (c :: r) = ("" : Str)) = false := by
  refine decide_eq_false fun h => ?_
  have := congrArg Str.length h
  rw [show ("" : Str) = ⟨#[]⟩ from by decide +kernel] at this
  simp [sgn, Str.length] at this
theorem sgn_c {r : List Nat} {c : Nat} : (sgn r = (⟨#[c]⟩ : Str)) ↔ r.head? = some c := by
  cases r with
  | nil => simp [sgn]
  | cons d q => simp [sgn]
local macro_rules | `(tactic| wtm_at "one") => `(tactic| ((with_reducible apply i_isiK); (focus assumption); (focus decide)))
local macro_rules | `(tactic| wtm_at "one") => `(tactic| (with_reducible refine gMust_in ?_))
local macro_rules | `(tactic| wtm_at "one") => `(tactic| ((with_reducible apply i_meth); (focus (wtm_at "mem")); (focus (wtm_at "mlk"))))
local macro_rules | `(tactic| wtm_at "one") => `(tactic| ((with_reducible apply i_fld); (focus (wtm_at "mem")); (focus assumption); (focus (simp; done)); (focus (wtm_at "mlk"))))
local macro_rules | `(tactic| wtm_at "one") => `(tactic| with_reducible (refine i_wmakeS ?_))
local macro_rules | `(tactic| wtm_at "one") => `(tactic| with_reducible (refine i_wmake ?_))
local macro_rules | `(tactic| wtm_at "one") => `(tactic| with_reducible (refine i_wmethS ?_))
local macro_rules | `(tactic| wtm_at "one") => `(tactic| with_reducible (refine i_wmeth ?_))
local macro_rules | `(tactic| wtm_at "one") => `(tactic| with_reducible (refine i_wfld ?_))
local macro_rules | `(tactic| wtm_at "one") => `(tactic| with_reducible (refine i_wsetF ?_))
local macro_rules | `(tactic| wtm_at "mem") => `(tactic| with_reducible (apply rd_frz; wtm_at "mem"))
local macro_rules | `(tactic| wtm_at "mem") => `(tactic| with_reducible (apply rd_I; wtm_at "mem"))
local macro_rules | `(tactic| wtm_at "mem") => `(tactic| with_reducible (apply rd_T; wtm_at "mem"))
local macro_rules | `(tactic| wtm_at "mem") => `(tactic| with_reducible (apply rd_L; wtm_at "mem"))
local macro_rules | `(tactic| wtm_at "mem") => `(tactic| with_reducible (apply rd_K; wtm_at "mem"))
local macro_rules | `(tactic| wtm_at "mem") => `(tactic| with_reducible (apply mput_off'; assumption; wtm_at "mem"))
local macro_rules | `(tactic| wtm_at "mem") => `(tactic| with_reducible (apply mput_off; assumption; wtm_at "mem"))
local macro_rules | `(tactic| wtm_at "mem") => `(tactic| with_reducible (apply mput_new; assumption; wtm_at "mem"))
local macro_rules | `(tactic| wtm_at "mem") => `(tactic| with_reducible (exact mput_same))
local macro_rules | `(tactic| wtm_at "mem") => `(tactic| with_reducible (assumption))
local macro_rules | `(tactic| wtm_at "mlk") => `(tactic| with_reducible (exact rdF_no (by simp [ofString_inj]) (by simp [ofString_inj]) (by simp [ofString_inj])))
local macro_rules | `(tactic| wtm_at "mlk") => `(tactic| with_reducible (exact rdF_deep))
local macro_rules | `(tactic| wtm_at "mlk") => `(tactic| with_reducible (exact rdF_at))
local macro_rules | `(tactic| wtm_at "mlk") => `(tactic| with_reducible (exact rdF_text))
def gSign (C : Addr) : SpM := fun ds m Q _ => ∃ (p : Addr) (t : Str) (a dp : Nat), ds = [.ref p] ∧ RdS C m p t a dp ∧ ∀ a', a ≤ a' → a' ≤ (sg t).length → (sg t).drop a' = skip ((sg t).drop a) → Q (.str (sgn ((sg t).drop a'))) (mput m p (.ins C (rdF t a' dp)))
abbrev s_Reader_sign : Stmt := inClass (topS 32) 1
theorem sc_Reader_sign : FnScope ["self"] ["self"] (defScope s_Reader_sign) := ⟨rfl, rfl, rfl, by decide +kernel, rfl, by decide +kernel, by decide +kernel⟩
theorem ok_Reader_sign {k : Nat} {C : Addr} (O : ObK K C ["text", "at", "deep"]) {f_Reader_sign : Addr} {fd_Reader_sign : FuncData} (F : Fun K "sign" "Reader.sign" s_Reader_sign f_Reader_sign fd_Reader_sign) : FnMB P w K mg base CX0 (k + 1) f_Reader_sign fd_Reader_sign ["self"] (gSign C) := by
  refine fn_mB F sc_Reader_sign (fun ds m Q E h => ?_) (fun cdv A outer s H ds m Q E E' l hc hr h => ?_)
  · obtain ⟨p, t, a, dp, rfl, _⟩ := h; rfl
  have nd := sc_Reader_sign.nd
  obtain ⟨p, t, a, dp, rfl, R, q⟩ := h
  have hl := R.l
  have ha := R.a
  have hz : t.length ≤ sizeLine := by rw [str_len]; exact Nat.le_trans hl (by decide)
  refine ⟨_, (mss_cons (ms_while PassesOwn.never (mt_cmp (mo_eqq_u (hu65H hr)) (mx_slice (mx_fld (mv 0) rfl) (mo_some (mx_fld (mv 0) rfl)) (mo_some (mx_op mo_plus (mx_fld (mv 0) rfl) mx_int))) mx_str (nomark _)) (mss_one (ms_fld (mv 0) (mx_op mo_plus (mx_fld (mv 0) rfl) mx_int) rfl)))
    (mss_one (ms_ret (mx_slice (mx_fld (mv 0) rfl) (mo_some (mx_fld (mv 0) rfl)) (mo_some (mx_op mo_plus (mx_fld (mv 0) rfl) mx_int)))))), ?_⟩
  wtm_at "go"
  refine ⟨fun n ρ M => ∃ a1, ρ = [some (.ref p)] ∧ a ≤ a1 ∧ a1 ≤ (sg t).length ∧ skip ((sg t).drop a1) = skip ((sg t).drop a) ∧ n = (sg t).length - a1 ∧ M = mput m p (.ins C (rdF t a1 dp)), ⟨_, a, rfl, Nat.le_refl a, ha, rfl, rfl, (mput_self R.e).symm⟩, ?_⟩
  rintro n ρ M ⟨a1, rfl, h1, h2, h3, rfl, rfl⟩
  have e1 : mput m p (.ins C (rdF t a1 dp)) p = some (.ins C (rdF t a1 dp)) := mput_same
  wtm_at "go"
  refine i_slS hz ?_
  rw [sgn_cut]
  wtm_at "go"
  rw [sgn_blank]
  by_cases cb : ((sg t).drop a1).head? = some 32
  · rw [decide_eq_true cb]
    obtain ⟨q1, hq⟩ : ∃ q1, (sg t).drop a1 = 32 :: q1 := by
      cases hd : (sg t).drop a1 with
      | nil => rw [hd] at cb; cases cb
      | cons c q1 => rw [hd] at cb; cases cb; exact ⟨q1, rfl⟩
    obtain ⟨l1, l2, _⟩ := drop_cons hq
    wtm_at "go"
    refine i_setF e1 O (by simp) (by show 3 < 1000; decide) ?_
    rw [show (a1 : Int) + 1 = ((a1 + 1 : Nat) : Int) from rfl, rdF_pat, mput_mput]
    exact ⟨(sg t).length - (a1 + 1), by omega, a1 + 1, rfl, by omega, l1, by rw [l2, ← h3, hq, skip_b], rfl, rfl⟩
  · rw [decide_eq_false cb]
    wtm_at "go"
    refine i_slS hz ?_
    rw [sgn_cut]
    refine RtM.mk (q a1 h1 h2 ?_)
    rw [← h3]
    cases hd : (sg t).drop a1 with
    | nil => rfl
    | cons c q1 => rw [hd] at cb; rw [skip_c]; rintro rfl; exact cb rfl
def gTakes (C : Addr) : SpM := fun ds m Q _ => ∃ (p : Addr) (t z : Str) (a dp c : Nat), ds = [.ref p, .str z] ∧ z = ⟨#[c]⟩ ∧ RdS C m p t a dp ∧ ∀ a', a' ≤ (sg t).length → (sg t).drop a' = (takesP c ((sg t).drop a)).2 → Q (.bl (takesP c ((sg t).drop a)).1) (mput m p (.ins C (rdF t a' dp)))
abbrev s_Reader_takes : Stmt := inClass (topS 32) 2
theorem sc_Reader_takes : FnScope ["self", "sign"] ["self", "sign"] (defScope s_Reader_takes) := ⟨rfl, rfl, rfl, by decide +kernel, rfl, by decide +kernel, by decide +kernel⟩
theorem ok_Reader_takes {k : Nat} {C : Addr} (O : ObK K C ["text", "at", "deep"]) {f_Reader_sign : Addr} {fd_Reader_sign : FuncData} (D_Reader_sign : Dm K C "sign" f_Reader_sign fd_Reader_sign ["self"]) (G_Reader_sign : FnMB P w K mg base CX0 (k) f_Reader_sign fd_Reader_sign ["self"] (gSign C)) {f_Reader_takes : Addr} {fd_Reader_takes : FuncData} (F : Fun K "takes" "Reader.takes" s_Reader_takes f_Reader_takes fd_Reader_takes) : FnMB P w K mg base CX0 (k + 1) f_Reader_takes fd_Reader_takes ["self", "sign"] (gTakes C) := by
  refine fn_mB F sc_Reader_takes (fun ds m Q E h => ?_) (fun cdv A outer s H ds m Q E E' l hc hr h => ?_)
  · obtain ⟨p, t, z, a, dp, c, rfl, _⟩ := h; rfl
  have nd := sc_Reader_takes.nd
  obtain ⟨p, t, z, a, dp, c, rfl, rfl, R, q⟩ := h
  have e0 := R.e
  refine ⟨_, (mss_cons (ms_if (mt_cmp (mo_neq_u (hu65H hr)) (bx_meth0 (Em := noX) (mv 0) D_Reader_sign.c D_Reader_sign.m G_Reader_sign hr hc D_Reader_sign.b pass0M) (mv 1) (nomark _)) (mss_one (ms_ret mx_bl)) mss_nil)
    (mss_cons (ms_fld (mv 0) (mx_op mo_plus (mx_fld (mv 0) rfl) mx_int) rfl)
    (mss_one (ms_ret mx_bl)))), ?_⟩
  wtm_at "go"
  refine ⟨p, t, a, dp, rfl, R, fun a' h1 h2 h3 => ?_⟩
  have e1 : mput m p (.ins C (rdF t a' dp)) p = some (.ins C (rdF t a' dp)) := mput_same
  wtm_at "go"
  by_cases cb : ((sg t).drop a').head? = some c
  · rw [decide_eq_true (sgn_c.mpr cb)]
    obtain ⟨q1, hq⟩ : ∃ q1, (sg t).drop a' = c :: q1 := by
      cases hd : (sg t).drop a' with
      | nil => rw [hd] at cb; cases cb
      | cons c q1 => rw [hd] at cb; cases cb; exact ⟨q1, rfl⟩
    obtain ⟨l1, l2, _⟩ := drop_cons hq
    have ht : takesP c ((sg t).drop a) = (true, q1) := by unfold takesP; rw [← h3, hq]; exact if_pos rfl
    rw [ht] at q
    wtm_at "go"
    refine i_setF e1 O (by simp) (by show 3 < 1000; decide) ?_
    rw [show (a' : Int) + 1 = ((a' + 1 : Nat) : Int) from rfl, rdF_pat, mput_mput]
    wtm_at "go"
    exact RtM.mk (q (a' + 1) l1 l2)
  · rw [decide_eq_false (fun z => cb (sgn_c.mp z))]
    have ht : takesP c ((sg t).drop a) = (false, (sg t).drop a') := by
      unfold takesP; rw [← h3]
      cases hd : (sg t).drop a' with
      | nil => rfl
      | cons x q1 => exact if_neg (fun e => by subst e; rw [hd] at cb; exact cb rfl)
    rw [ht] at q
    wtm_at "go"
    exact RtM.mk (q a' h2 rfl)
def gNeed (C cB : Addr) : SpM := fun ds m Q E => ∃ (p : Addr) (t z : Str) (a dp c : Nat), ds = [.ref p, .str z] ∧ z = ⟨#[c]⟩ ∧ RdS C m p t a dp ∧
  (∀ a', a' ≤ (sg t).length → needP c ((sg t).drop a) = some ((sg t).drop a') → Q .non (mput m p (.ins C (rdF t a' dp)))) ∧ (needP c ((sg t).drop a) = none → ∀ M, SubX p m M → E cB M)
abbrev s_Reader_need : Stmt := inClass (topS 32) 3
theorem sc_Reader_need : FnScope ["self", "sign"] ["self", "sign"] (defScope s_Reader_need) := ⟨rfl, rfl, rfl, by decide +kernel, rfl, by decide +kernel, by decide +kernel⟩
theorem ok_Reader_need {k : Nat} {c_BookError c_BadContract c_BadMarket c_TooMany c_BadText : Addr} (XE : Xcs K mg c_BookError c_BadContract c_BadMarket c_TooMany c_BadText) {C : Addr} (O : ObK K C ["text", "at", "deep"]) {f_Reader_takes : Addr} {fd_Reader_takes : FuncData} (D_Reader_takes : Dm K C "takes" f_Reader_takes fd_Reader_takes ["self", "sign"]) (G_Reader_takes : FnMB P w K mg base CX0 (k) f_Reader_takes fd_Reader_takes ["self", "sign"] (gTakes C)) {f_Reader_need : Addr} {fd_Reader_need : FuncData} (F : Fun K "need" "Reader.need" s_Reader_need f_Reader_need fd_Reader_need) : FnMB P w K mg base (CXB P w) (k + 1) f_Reader_need fd_Reader_need ["self", "sign"] (gNeed C c_BadText) := by
  refine fn_mXB F sc_Reader_need (fun ds m Q E h => ?_) (fun cdv A outer s H ds m Q E E' l hc hr h hw => ?_)
  · obtain ⟨p, t, z, a, dp, c, rfl, _⟩ := h; rfl
  have nd := sc_Reader_need.nd
  obtain ⟨p, t, z, a, dp, c, rfl, rfl, R, q, qe⟩ := h
  have e0 := R.e
  refine ⟨_, (mss_one (ms_if (mt_not (mt_val (bx_meth (Em := noX) (mv 0) D_Reader_takes.c D_Reader_takes.m G_Reader_takes hr hc D_Reader_takes.b pass0M (ma_cons (mv 1) ma_nil)))) (mss_one (bs_raise hc (takesB_of rfl rfl rfl rfl) hw (pmkA_own PySem.F.excBase_ValueError XE.X_BadText.q XE.X_BadText.g XE.X_BadText.k XE.X_BadText.raises rfl))) mss_nil)), ?_⟩
  wtm_at "go"
  refine ⟨p, t, _, a, dp, c, rfl, rfl, R, fun a' h1 h2 => ?_⟩
  unfold needP at q qe
  rw [h2.symm] at q
  cases hb : (takesP c ((sg t).drop a)).1 with
  | true =>
    rw [hb] at q
    wtm_at "go"
    exact RtM.mk (q a' h1 (if_pos rfl))
  | false =>
    rw [hb] at qe
    wtm_at "go"
    exact qe (if_neg Bool.false_ne_true) _ SubX.here
def gRun (C cB : Addr) : SpM := fun ds m Q E => ∃ (p : Addr) (t z : Str) (a dp most : Nat), ds = [.ref p, .str z, .int most] ∧ RdS C m p t a dp ∧
  (∀ w a', a' ≤ (sg t).length → runP z most ((sg t).drop a) = some (w, (sg t).drop a') → Q (.str (strOf w)) (mput m p (.ins C (rdF t a' dp)))) ∧ (runP z most ((sg t).drop a) = none → ∀ M, SubX p m M → E cB M)
abbrev s_Reader_run : Stmt := inClass (topS 32) 4
theorem sc_Reader_run : FnScope ["self", "signs", "most", "begun"] ["self", "signs", "most"] (defScope s_Reader_run) := ⟨rfl, rfl, rfl, by decide +kernel, rfl, by decide +kernel, by decide +kernel⟩
theorem ok_Reader_run {k : Nat} {c_BookError c_BadContract c_BadMarket c_TooMany c_BadText : Addr} (XE : Xcs K mg c_BookError c_BadContract c_BadMarket c_TooMany c_BadText) {C : Addr} (O : ObK K C ["text", "at", "deep"]) {f_Reader_sign : Addr} {fd_Reader_sign : FuncData} (D_Reader_sign : Dm K C "sign" f_Reader_sign fd_Reader_sign ["self"]) (G_Reader_sign : FnMB P w K mg base CX0 (k) f_Reader_sign fd_Reader_sign ["self"] (gSign C)) {f_Reader_run : Addr} {fd_Reader_run : FuncData} (F : Fun K "run" "Reader.run" s_Reader_run f_Reader_run fd_Reader_run) : FnMB P w K mg base (CXB P w) (k + 1) f_Reader_run fd_Reader_run ["self", "signs", "most"] (gRun C c_BadText) := by
  refine fn_mXB F sc_Reader_run (fun ds m Q E h => ?_) (fun cdv A outer s H ds m Q E E' l hc hr h hw => ?_)
  · obtain ⟨p, t, z, a, dp, most, rfl, _⟩ := h; rfl
  have nd := sc_Reader_run.nd
  obtain ⟨p, t, z, a, dp, most, rfl, R, q, qe⟩ := h
  have hl := R.l
  have hz : t.length ≤ sizeLine := by rw [str_len]; exact Nat.le_trans hl (by decide)
  have e0 := R.e
  refine ⟨_, (mss_cons (ms_expr (bx_meth0 (Em := noX) (mv 0) D_Reader_sign.c D_Reader_sign.m G_Reader_sign hr hc D_Reader_sign.b pass0M))
    (mss_cons (ms_set (i := 3) nd rfl (.inl rfl) (mx_fld (mv 0) rfl))
    (mss_cons (ms_while (passes_of rfl) (mw_pt (mw_and (mt_cmp (mo_neq_u (hu65H hr)) (mx_slice (mx_fld (mv 0) rfl) (mo_some (mx_fld (mv 0) rfl)) (mo_some (mx_op mo_plus (mx_fld (mv 0) rfl) mx_int))) mx_str (nomark _)) (mw_and1 (mt_cmp (mo_in_u (hu65H hr)) (mx_ix (mi_sub_u (hu65H hr)) (mx_fld (mv 0) rfl) (mx_fld (mv 0) rfl)) (mv 1) rfl)))) (mss_one (ms_fld (mv 0) (mx_op mo_plus (mx_fld (mv 0) rfl) mx_int) rfl)))
    (mss_cons (ms_if (mt_not (mt_chain mo_le mo_le mx_int (mx_op mo_sub (mx_fld (mv 0) rfl) (mv 3)) (mv 2))) (mss_one (bs_raise hc (takesB_of rfl rfl rfl rfl) hw (pmkA_own PySem.F.excBase_ValueError XE.X_BadText.q XE.X_BadText.g XE.X_BadText.k XE.X_BadText.raises rfl))) mss_nil)
    (mss_one (ms_ret (mx_slice (mx_fld (mv 0) rfl) (mo_some (mv 3)) (mo_some (mx_fld (mv 0) rfl))))))))), ?_⟩
  wtm_at "go"
  refine ⟨p, t, a, dp, rfl, R, fun a1 h1 h2 h3 => ?_⟩
  have e1 : mput m p (.ins C (rdF t a1 dp)) p = some (.ins C (rdF t a1 dp)) := mput_same
  wtm_at "go"
  refine ⟨fun n ρ M => ∃ a2, ρ = [some (.ref p), some (.str z), some (.int (most : Int)), some (.int (a1 : Int))] ∧ a1 ≤ a2 ∧ a2 ≤ (sg t).length ∧ ((sg t).drop a1).takeWhile (inS z) = ((sg t).drop a1).take (a2 - a1) ++ ((sg t).drop a2).takeWhile (inS z) ∧ ((sg t).drop a1).dropWhile (inS z) = ((sg t).drop a2).dropWhile (inS z) ∧ n = (sg t).length - a2 ∧ M = mput m p (.ins C (rdF t a2 dp)), ⟨_, a1, rfl, Nat.le_refl _, h2, by rw [Nat.sub_self]; rfl, rfl, rfl, rfl⟩, ?_⟩
  rintro n ρ M ⟨a2, rfl, g1, g2, g3, g4, rfl, rfl⟩
  have e2 : mput m p (.ins C (rdF t a2 dp)) p = some (.ins C (rdF t a2 dp)) := mput_same
  wtm_at "go"
  refine i_slS hz ?_
  rw [sgn_cut]
  wtm_at "go"
  have fin : ((sg t).drop a2).takeWhile (inS z) = [] → ((sg t).drop a2).dropWhile (inS z) = (sg t).drop a2 → (runP z most ((sg t).drop a) = if 1 ≤ a2 - a1 ∧ a2 - a1 ≤ most then some (((sg t).drop a1).take (a2 - a1), (sg t).drop a2) else none) := fun z1 z2 => by
    rw [z1, List.append_nil] at g3
    rw [z2] at g4
    unfold runP
    rw [← h3, g3, g4, List.length_take, List.length_drop, Nat.min_eq_left (by omega)]
  have em : ∀ {x : Nat} {r2 : List Nat}, (sg t).drop a2 = x :: r2 → inS z x = true → ((sg t).drop a1).takeWhile (inS z) = ((sg t).drop a1).take (a2 + 1 - a1) ++ ((sg t).drop (a2 + 1)).takeWhile (inS z) ∧ ((sg t).drop a1).dropWhile (inS z) = ((sg t).drop (a2 + 1)).dropWhile (inS z) := fun {x r2} hd hx => by
    obtain ⟨l1, l2, l3⟩ := drop_cons hd
    rw [g3, g4, hd, List.takeWhile_cons_of_pos hx, List.dropWhile_cons_of_pos hx, l2, show a2 + 1 - a1 = a2 - a1 + 1 by omega, List.take_succ]
    refine ⟨?_, rfl⟩
    have : ((sg t).drop a1)[a2 - a1]? = some x := by rw [List.getElem?_drop, show a1 + (a2 - a1) = a2 by omega]; exact l3
    rw [this, List.append_assoc]; rfl
  have ending : (runP z most ((sg t).drop a) = if 1 ≤ a2 - a1 ∧ a2 - a1 ≤ most then some (((sg t).drop a1).take (a2 - a1), (sg t).drop a2) else none) → (1 ≤ a2 - a1 ∧ a2 - a1 ≤ most → RtM Q (.str (strOf (((sg t).drop a1).take (a2 - a1)))) (mput m p (.ins C (rdF t a2 dp)))) ∧ (¬ (1 ≤ a2 - a1 ∧ a2 - a1 ≤ most) → E c_BadText (mput m p (.ins C (rdF t a2 dp)))) := fun e => by
    refine ⟨fun c => RtM.mk (q _ a2 g2 (by rw [e, if_pos c])), fun c => qe (by rw [e, if_neg c]) _ SubX.here⟩
  by_cases hin : ∃ x r2, (sg t).drop a2 = x :: r2 ∧ inS z x = true
  · obtain ⟨x, r2, hd, hx⟩ := hin
    obtain ⟨l1, l2, l3⟩ := drop_cons hd
    obtain ⟨m1, m2⟩ := em hd hx
    rw [hd, sgn_ne]
    wtm_at "go"
    refine i_subS hz (atI_nat (j := a2) l3) ?_
    wtm_at "go"
    refine ⟨_, .inr (.inl ⟨x, z, rfl, rfl, rfl⟩), ?_⟩
    rw [show decide (x ∈ z.cps.toList) = true from hx]
    wtm_at "go"
    refine i_setF e2 O (by simp) (by show 3 < 1000; decide) ?_
    rw [show (a2 : Int) + 1 = ((a2 + 1 : Nat) : Int) from rfl, rdF_pat, mput_mput]
    exact ⟨(sg t).length - (a2 + 1), by omega, a2 + 1, rfl, by omega, l1, m1, m2, rfl, rfl⟩
  have hout : ((sg t).drop a2).takeWhile (inS z) = [] ∧ ((sg t).drop a2).dropWhile (inS z) = (sg t).drop a2 := by
    cases hd : (sg t).drop a2 with
    | nil => exact ⟨rfl, rfl⟩
    | cons x r2 =>
      have hx : ¬ inS z x = true := fun h => hin ⟨x, r2, hd, h⟩
      exact ⟨List.takeWhile_cons_of_neg hx, List.dropWhile_cons_of_neg hx⟩
  obtain ⟨en1, en2⟩ := ending (fin hout.1 hout.2)
  clear ending fin em q qe
  cases hd : (sg t).drop a2 with
  | nil =>
    wtm_at "go"
    by_cases c1 : 1 ≤ a2 - a1 ∧ a2 - a1 ≤ most
    · rw [decide_eq_true (show (1 : Int) ≤ (a2 : Int) - a1 by omega)]
      wtm_at "go"
      refine i_slS hz ?_
      rw [cut_mid g1 g2]
      exact en1 c1
    · by_cases c2 : (1 : Int) ≤ (a2 : Int) - a1
      · rw [decide_eq_true c2]
        wtm_at "go"
        exact en2 c1
      · rw [decide_eq_false c2]
        wtm_at "go"
        exact en2 c1
  | cons x r2 =>
    obtain ⟨l1, l2, l3⟩ := drop_cons hd
    have hx : inS z x = false := by cases h : inS z x with
      | false => rfl
      | true => exact (hin ⟨x, r2, hd, h⟩).elim
    rw [sgn_ne]
    wtm_at "go"
    refine i_subS hz (atI_nat (j := a2) l3) ?_
    wtm_at "go"
    refine ⟨_, .inr (.inl ⟨x, z, rfl, rfl, rfl⟩), ?_⟩
    rw [show decide (x ∈ z.cps.toList) = false from hx]
    wtm_at "go"
    by_cases c1 : 1 ≤ a2 - a1 ∧ a2 - a1 ≤ most
    · rw [decide_eq_true (show (1 : Int) ≤ (a2 : Int) - a1 by omega)]
      wtm_at "go"
      refine i_slS hz ?_
      rw [cut_mid g1 g2]
      exact en1 c1
    · by_cases c2 : (1 : Int) ≤ (a2 : Int) - a1
      · rw [decide_eq_true c2]
        wtm_at "go"
        exact en2 c1
      · rw [decide_eq_false c2]
        wtm_at "go"
        exact en2 c1
def figT : Str := Str.ofString "0123456789"
def smallT : Str := Str.ofString "abcdefghijklmnopqrstuvwxyz"
theorem sg_fig : sg figT = [48, 49, 50, 51, 52, 53, 54, 55, 56, 57] := by decide +kernel
theorem sg_small : sg smallT = [97, 98, 99, 100, 101, 102, 103, 104, 105, 106, 107, 108, 109, 110, 111, 112, 113, 114, 115, 116, 117, 118, 119, 120, 121, 122] := by decide +kernel
theorem inS_fig {c : Nat} : inS figT c = true ↔ 48 ≤ c ∧ c ≤ 57 := by
  unfold inS
  rw [decide_eq_true_iff, show figT.cps.toList = _ from sg_fig]
  simp only [List.mem_cons, List.not_mem_nil, or_false]
  omega
theorem inS_small {c : Nat} : inS smallT c = true ↔ 97 ≤ c ∧ c ≤ 122 := by
  unfold inS
  rw [decide_eq_true_iff, show smallT.cps.toList = _ from sg_small]
  simp only [List.mem_cons, List.not_mem_nil, or_false]
  omega
theorem mem_tw {S : Nat → Bool} {c : Nat} : ∀ {r : List Nat}, c ∈ r.takeWhile S → S c = true
  | [], h => nomatch h
  | x :: r, h => by
    by_cases hx : S x = true
    · rw [List.takeWhile_cons_of_pos hx] at h
      rcases List.mem_cons.mp h with rfl | h
      · exact hx
      · exact mem_tw h
    · rw [List.takeWhile_cons_of_neg hx] at h; cases h
theorem runP_some {z : Str} {n : Nat} {r w q : List Nat} (h : runP z n r = some (w, q)) : skip r = w ++ q ∧ (∀ c ∈ w, inS z c = true) ∧ (∀ c, q.head? = some c → inS z c = false) ∧ 1 ≤ w.length ∧ w.length ≤ n := by
  unfold runP at h
  split at h
  · rename_i hc
    injection h with h
    injection h with h1 h2
    subst h1 h2
    refine ⟨(List.takeWhile_append_dropWhile).symm, fun c hm => ?_, fun c hm => ?_, hc.1, hc.2⟩
    · exact mem_tw hm
    · have := List.head?_dropWhile_not (inS z) (skip r)
      rw [hm] at this
      simpa using this
  · cases h
def dval (f : List Nat) : Nat := PySem.NumText.digitsVal f
def numP (r : List Nat) : Option (Int × List Nat) :=
  if (takesP 45 r).1 = true ∧ (takesP 45 r).2.head? = some 32 then none else
  match runP figT 13 (takesP 45 r).2 with
  | none => none
  | some (f, q) => if f.head? = some 48 ∧ (1 < f.length ∨ (takesP 45 r).1 = true) then none else some (if (takesP 45 r).1 = true then 0 - (dval f : Int) else dval f, q)
theorem int_fig {f : List Nat} (h : ∀ c ∈ f, inS figT c = true) (h1 : 1 ≤ f.length) (h2 : f.length ≤ 13) : PySem.intText? (strOf f) = some (dval f : Int) := by
  have e : (strOf f).cps.toList = f := List.toList_toArray
  refine PySem.intText_digits (x := strOf f) ?_ ?_ ?_ |>.trans ?_
  · rw [e]; exact fun c hc => inS_fig.mp (h c hc)
  · rw [e]; rintro rfl; simp at h1
  · rw [str_len]; unfold sg; rw [e]; omega
  · rw [e]; rfl
def gNumber (C cB : Addr) : SpM := fun ds m Q E => ∃ (p : Addr) (t : Str) (a dp : Nat), ds = [.ref p] ∧ RdS C m p t a dp ∧
  (∀ n a', a' ≤ (sg t).length → numP ((sg t).drop a) = some (n, (sg t).drop a') → Q (.int n) (mput m p (.ins C (rdF t a' dp)))) ∧ (numP ((sg t).drop a) = none → ∀ M, SubX p m M → E cB M)
abbrev s_Reader_number : Stmt := inClass (topS 32) 5
theorem sc_Reader_number : FnScope ["self", "is_less", "figures"] ["self"] (defScope s_Reader_number) := ⟨rfl, rfl, rfl, by decide +kernel, rfl, by decide +kernel, by decide +kernel⟩
theorem ok_Reader_number {k : Nat} (V : Gv K mg) (Z : Bl mg) {c_BookError c_BadContract c_BadMarket c_TooMany c_BadText : Addr} (XE : Xcs K mg c_BookError c_BadContract c_BadMarket c_TooMany c_BadText) {C : Addr} (O : ObK K C ["text", "at", "deep"]) {f_Reader_takes : Addr} {fd_Reader_takes : FuncData} (D_Reader_takes : Dm K C "takes" f_Reader_takes fd_Reader_takes ["self", "sign"]) (G_Reader_takes : FnMB P w K mg base CX0 (k) f_Reader_takes fd_Reader_takes ["self", "sign"] (gTakes C)) {f_Reader_run : Addr} {fd_Reader_run : FuncData} (D_Reader_run : Dm K C "run" f_Reader_run fd_Reader_run ["self", "signs", "most"]) (G_Reader_run : FnMB P w K mg base (CXB P w) (k) f_Reader_run fd_Reader_run ["self", "signs", "most"] (gRun C c_BadText)) {f_Reader_number : Addr} {fd_Reader_number : FuncData} (F : Fun K "number" "Reader.number" s_Reader_number f_Reader_number fd_Reader_number) : FnMB P w K mg base (CXB P w) (k + 1) f_Reader_number fd_Reader_number ["self"] (gNumber C c_BadText) := by
  refine fn_mXB F sc_Reader_number (fun ds m Q E h => ?_) (fun cdv A outer s H ds m Q E E' l hc hr h hw => ?_)
  · obtain ⟨p, t, a, dp, rfl, _⟩ := h; rfl
  have nd := sc_Reader_number.nd
  obtain ⟨p, t, a, dp, rfl, R, q, qe⟩ := h
  have hz : t.length ≤ sizeLine := by rw [str_len]; exact Nat.le_trans R.l (by decide)
  have e0 := R.e
  refine ⟨_, (mss_cons (ms_set (i := 1) nd rfl (.inl rfl) (bx_meth (Em := noX) (mv 0) D_Reader_takes.c D_Reader_takes.m G_Reader_takes hr hc D_Reader_takes.b pass0M (ma_cons mx_str ma_nil)))
    (mss_cons (ms_if (mw_pt (mw_and (mt_val (mv 1)) (mw_and1 (mt_cmp (mo_eqq_u (hu65H hr)) (mx_slice (mx_fld (mv 0) rfl) (mo_some (mx_fld (mv 0) rfl)) (mo_some (mx_op mo_plus (mx_fld (mv 0) rfl) mx_int))) mx_str (nomark _))))) (mss_one (bs_raise hc (takesB_of rfl rfl rfl rfl) hw (pmkA_own PySem.F.excBase_ValueError XE.X_BadText.q XE.X_BadText.g XE.X_BadText.k XE.X_BadText.raises rfl))) mss_nil)
    (mss_cons (ms_set (i := 2) nd rfl (.inl rfl) (bx_meth (Em := E) (mv 0) D_Reader_run.c D_Reader_run.m G_Reader_run hr hc D_Reader_run.b (passMB (takesB_of rfl rfl rfl rfl) hw) (ma_cons (mx_gt V.FIGURES) (ma_cons (mx_gt V.MOST_FIGURES) ma_nil))))
    (mss_cons (ms_if (mw_pt (mw_and (mt_cmp (mo_eqq_u (hu65H hr)) (mx_ix (mi_sub_u (hu65H hr)) (mv 2) mx_int) mx_str (nomark _)) (mw_and1 (mw_pt (mw_or (mt_cmp mo_gt (mx_callB mc_len1 Z.b_len (ma_cons (mv 2) ma_nil)) mx_int (nomark _)) (mw_or1 (mt_val (mv 1)))))))) (mss_one (bs_raise hc (takesB_of rfl rfl rfl rfl) hw (pmkA_own PySem.F.excBase_ValueError XE.X_BadText.q XE.X_BadText.g XE.X_BadText.k XE.X_BadText.raises rfl))) mss_nil)
    (mss_one (ms_ret (mx_if (mt_val (mv 1)) (mx_op mo_sub mx_int (mx_callTy mc_intT Z.b_int (ma_cons (mv 2) ma_nil))) (mx_callTy mc_intT Z.b_int (ma_cons (mv 2) ma_nil))))))))), ?_⟩
  wtm_at "go"
  refine ⟨p, t, _, a, dp, 45, rfl, by decide +kernel, R, fun a1 g1 g2 => ?_⟩
  have R1 := R.put g1
  have e1 := R1.e
  unfold numP at q qe
  rw [← g2] at q qe
  generalize (takesP 45 ((sg t).drop a)).1 = neg at q qe ⊢
  have x1 : SubX p m (mput m p (.ins C (rdF t a1 dp))) := SubX.here
  have hfig : ∀ {w' : List Nat} {a2 : Nat}, runP figT 13 ((sg t).drop a1) = some (w', (sg t).drop a2) → (∀ c ∈ w', inS figT c = true) ∧ 1 ≤ w'.length ∧ w'.length ≤ 13 := fun h => by
    obtain ⟨_, h2, _, h4, h5⟩ := runP_some h
    exact ⟨h2, h4, h5⟩
  have hzero : ∀ c : Nat, decide ((⟨#[c]⟩ : Str) = Str.ofString "0") = decide (c = 48) := fun c => by
    rw [decide_eq_decide, show Str.ofString "0" = ⟨#[48]⟩ from by decide +kernel]; simp
  wtm_at "go"
  cases neg with
  | true =>
    wtm_at "go"
    refine i_slS hz ?_
    rw [sgn_cut]
    wtm_at "go"
    rw [sgn_blank]
    by_cases cb : ((sg t).drop a1).head? = some 32
    · rw [decide_eq_true cb]
      wtm_at "go"
      exact qe (if_pos ⟨rfl, cb⟩) _ x1
    rw [decide_eq_false cb]
    rw [if_neg (fun h => cb h.2)] at q qe
    wtm_at "go"
    refine ⟨p, t, figT, a1, dp, 13, rfl, R1, fun f a2 g3 g4 => ?_, fun e M x => qe (by rw [e]) _ (x1.trans x)⟩
    rw [g4] at q qe
    obtain ⟨h1, h2, h3⟩ := hfig g4
    rw [mput_mput]
    obtain ⟨c, f', rfl⟩ : ∃ c f', f = c :: f' := by
      cases f with
      | nil => simp at h2
      | cons c f' => exact ⟨c, f', rfl⟩
    have hfl : (strOf (c :: f')).length ≤ sizeLine := by
      rw [str_len]; exact Nat.le_trans h3 (by decide)
    have hfe : (strOf (c :: f')).length = (c :: f').length := by rw [str_len]; rfl
    wtm_at "go"
    refine i_subS hfl (atI_nat (j := 0) rfl) ?_
    wtm_at "go"
    rw [hzero]
    by_cases c0 : c = 48
    · rw [decide_eq_true c0]
      subst c0
      wtm_at "go"
      refine i_lenS hfl ?_
      rw [hfe]
      wtm_at "go"
      by_cases cl : (1 : Int) < ((48 :: f').length : Int)
      · rw [decide_eq_true cl]
        wtm_at "go"
        exact qe (if_pos ⟨rfl, .inr rfl⟩) _ SubX.here
      · rw [decide_eq_false cl]
        wtm_at "go"
        exact qe (if_pos ⟨rfl, .inr rfl⟩) _ SubX.here
    rw [decide_eq_false c0]
    wtm_at "go"
    refine i_intT (int_fig h1 h2 h3) (by rw [hfe]; omega) ?_
    wtm_at "go"
    exact RtM.mk (q _ a2 g3 ((if_neg (fun h => c0 (Option.some.inj h.1))).trans (by rw [if_pos rfl])))
  | false =>
    rw [if_neg (fun h => Bool.false_ne_true h.1)] at q qe
    wtm_at "go"
    refine ⟨p, t, figT, a1, dp, 13, rfl, R1, fun f a2 g3 g4 => ?_, fun e M x => qe (by rw [e]) _ (x1.trans x)⟩
    rw [g4] at q qe
    obtain ⟨h1, h2, h3⟩ := hfig g4
    rw [mput_mput]
    obtain ⟨c, f', rfl⟩ : ∃ c f', f = c :: f' := by
      cases f with
      | nil => simp at h2
      | cons c f' => exact ⟨c, f', rfl⟩
    have hfl : (strOf (c :: f')).length ≤ sizeLine := by
      rw [str_len]; exact Nat.le_trans h3 (by decide)
    have hfe : (strOf (c :: f')).length = (c :: f').length := by rw [str_len]; rfl
    wtm_at "go"
    refine i_subS hfl (atI_nat (j := 0) rfl) ?_
    wtm_at "go"
    rw [hzero]
    by_cases c0 : c = 48
    · rw [decide_eq_true c0]
      subst c0
      wtm_at "go"
      refine i_lenS hfl ?_
      rw [hfe]
      wtm_at "go"
      by_cases cl : (1 : Int) < ((48 :: f').length : Int)
      · rw [decide_eq_true cl]
        wtm_at "go"
        exact qe (if_pos ⟨rfl, .inl (by omega)⟩) _ SubX.here
      · rw [decide_eq_false cl]
        wtm_at "go"
        refine i_intT (int_fig h1 h2 h3) (by rw [hfe]; omega) ?_
        exact RtM.mk (q _ a2 g3 ((if_neg (fun h => h.2.elim (fun z => cl (by omega)) Bool.false_ne_true)).trans (by rw [if_neg Bool.false_ne_true])))
    rw [decide_eq_false c0]
    wtm_at "go"
    refine i_intT (int_fig h1 h2 h3) (by rw [hfe]; omega) ?_
    exact RtM.mk (q _ a2 g3 ((if_neg (fun h => c0 (Option.some.inj h.1))).trans (by rw [if_neg Bool.false_ne_true])))
structure Gd (K : PySem.W.Frag) (w : World) (mg : Str → Option Value) (t_FORMS t_ASKS : Addr) : Prop where
  FORMS : GlT K mg "FORMS" (.ref t_FORMS)
  d_FORMS : KdD K w t_FORMS [("none", ""), ("give", "wwwo"), ("both", "cc"), ("turned", "wwc"), ("later", "nc"), ("often", "nnc"), ("if", "acc"), ("when", "ac"), ("until", "ac")]
  ASKS : GlT K mg "ASKS" (.ref t_ASKS)
  d_ASKS : KdD K w t_ASKS [("below", "oo"), ("not", "a"), ("all", "aa"), ("any", "aa")]
abbrev Par := List Nat → Option (D × List Nat)
abbrev Fil := Str → Str → Par
def figM : Str := figT ++ Str.ofString "-"
def joinsL : List Str := [Str.ofString "plus", Str.ofString "minus", Str.ofString "times", Str.ofString "most", Str.ofString "least"]
def formsL : List (Str × Str) := [(Str.ofString "none", Str.ofString ""), (Str.ofString "give", Str.ofString "wwwo"), (Str.ofString "both", Str.ofString "cc"), (Str.ofString "turned", Str.ofString "wwc"), (Str.ofString "later", Str.ofString "nc"), (Str.ofString "often", Str.ofString "nnc"), (Str.ofString "if", Str.ofString "acc"), (Str.ofString "when", Str.ofString "ac"), (Str.ofString "until", Str.ofString "ac")]
def asksL : List (Str × Str) := [(Str.ofString "below", Str.ofString "oo"), (Str.ofString "not", Str.ofString "a"), (Str.ofString "all", Str.ofString "aa"), (Str.ofString "any", Str.ofString "aa")]
def toldW (fill : Fil) (r : List Nat) : Option (D × List Nat) := match runP smallT 8 r with
  | none => none
  | some (w, q) => if (skip q).head? = some 40 then (if strOf w ∈ joinsL then fill (strOf w) (Str.ofString "oo") (skip q) else none) else some (.tup [.str (Str.ofString "read"), .str (strOf w)], skip q)
def toldP (fill : Fil) (r : List Nat) : Option (D × List Nat) := match skip r with
  | [] => toldW fill []
  | c :: q => if inS figM c = true then (match numP (c :: q) with
    | none => none
    | some (n, s) => some (.tup [.str (Str.ofString "num"), .int n], s)) else toldW fill (c :: q)
def askP (fill : Fil) (r : List Nat) : Option (D × List Nat) := match runP smallT 8 r with
  | none => none
  | some (w, q) => match asksL.lookup (strOf w) with
    | none => none
    | some f => fill (strOf w) f q
def conP (fill : Fil) (r : List Nat) : Option (D × List Nat) := match runP smallT 8 r with
  | none => none
  | some (w, q) => match formsL.lookup (strOf w) with
    | none => none
    | some f => if strOf w = Str.ofString "none" then some (.tup [.str (strOf w)], q) else fill (strOf w) f q
def pieceP (fill : Fil) (c : Nat) (r : List Nat) : Option (D × List Nat) :=
  if c = 119 then (match runP smallT 8 r with
    | none => none
    | some (w, q) => some (.str (strOf w), q))
  else if c = 110 then (match numP r with
    | none => none
    | some (n, q) => some (.int n, q))
  else if c = 111 then toldP fill r
  else if c = 97 then askP fill r
  else conP fill r
def piecesP (P : Nat → Par) : Bool → List Nat → List Nat → Option (List D × List Nat)
  | _, [], r => some ([], r)
  | first, c :: form, r => match (if first = true then some r else needP 44 r) with
    | none => none
    | some r1 => match P c r1 with
      | none => none
      | some (d, r2) => match piecesP P false form r2 with
        | none => none
        | some (ds, r3) => some (d :: ds, r3)
def fillP : Nat → Fil
  | 0 => fun _ _ _ => none
  | n + 1 => fun w form r => match needP 40 r with
    | none => none
    | some r1 => match piecesP (pieceP (fillP n)) true (sg form) r1 with
      | none => none
      | some (ds, r2) => match needP 41 r2 with
        | none => none
        | some r3 => some (.tup (.str w :: ds), r3)
def gPar (C cB : Addr) (n : Nat) (f : Par) : SpM := fun ds m Q E => ∃ (p : Addr) (t : Str) (a dp : Nat), ds = [.ref p] ∧ RdS C m p t a dp ∧ dp + n = 40 ∧
  (∀ d a' M, a' ≤ (sg t).length → f ((sg t).drop a) = some (d, (sg t).drop a') → SubX p m M → M p = some (.ins C (rdF t a' dp)) → Q d M) ∧ (f ((sg t).drop a) = none → ∀ M, SubX p m M → E cB M)
def gFil (C cB : Addr) (n : Nat) : SpM := fun ds m Q E => ∃ (p : Addr) (t w form : Str) (a dp : Nat), ds = [.ref p, .str w, .str form] ∧ (sg form).length ≤ 10 ∧ RdS C m p t a dp ∧ dp + n = 40 ∧
  (∀ d a' M, a' ≤ (sg t).length → fillP n w form ((sg t).drop a) = some (d, (sg t).drop a') → SubX p m M → M p = some (.ins C (rdF t a' dp)) → Q d M) ∧ (fillP n w form ((sg t).drop a) = none → ∀ M, SubX p m M → E cB M)
theorem joins_in (x : Str) : ((joinsL.map D.str).any fun z => eqF z (.str x)) = decide (x ∈ joinsL) := by
  have go : ∀ l : List Str, ((l.map D.str).any fun z => eqF z (.str x)) = decide (x ∈ l) := fun l => by
    induction l with
    | nil => rfl
    | cons y l ih =>
      rw [List.map_cons, List.any_cons, ih, show eqF (.str y) (.str x) = (y == x) from rfl]
      by_cases e : y = x
      · subst e; simp
      · have : (y == x) = false := by simpa using e
        rw [this, Bool.false_or, decide_eq_decide, List.mem_cons]
        exact ⟨.inr, fun h => h.elim (fun z => (e z.symm).elim) id⟩
  exact go joinsL
theorem figM_c {c : Nat} : inS figM c = true ↔ (48 ≤ c ∧ c ≤ 57) ∨ c = 45 := by
  unfold inS
  rw [decide_eq_true_iff, show figM.cps.toList = [48, 49, 50, 51, 52, 53, 54, 55, 56, 57, 45] from by decide +kernel]
  simp only [List.mem_cons, List.not_mem_nil, or_false]
  omega
abbrev s_Reader_told : Stmt := inClass (topS 32) 6
theorem sc_Reader_told : FnScope ["self", "word"] ["self"] (defScope s_Reader_told) := ⟨rfl, rfl, rfl, by decide +kernel, rfl, by decide +kernel, by decide +kernel⟩
theorem ok_Reader_told {k n : Nat} (V : Gv K mg) (Z : Bl mg) {c_BookError c_BadContract c_BadMarket c_TooMany c_BadText : Addr} (XE : Xcs K mg c_BookError c_BadContract c_BadMarket c_TooMany c_BadText) {C : Addr} (O : ObK K C ["text", "at", "deep"]) {f_Reader_sign : Addr} {fd_Reader_sign : FuncData} (D_Reader_sign : Dm K C "sign" f_Reader_sign fd_Reader_sign ["self"]) (G_Reader_sign : FnMB P w K mg base CX0 (k) f_Reader_sign fd_Reader_sign ["self"] (gSign C)) {f_Reader_run : Addr} {fd_Reader_run : FuncData} (D_Reader_run : Dm K C "run" f_Reader_run fd_Reader_run ["self", "signs", "most"]) (G_Reader_run : FnMB P w K mg base (CXB P w) (k) f_Reader_run fd_Reader_run ["self", "signs", "most"] (gRun C c_BadText)) {f_Reader_number : Addr} {fd_Reader_number : FuncData} (D_Reader_number : Dm K C "number" f_Reader_number fd_Reader_number ["self"]) (G_Reader_number : FnMB P w K mg base (CXB P w) (k) f_Reader_number fd_Reader_number ["self"] (gNumber C c_BadText)) {f_Reader_filled : Addr} {fd_Reader_filled : FuncData} (D_Reader_filled : Dm K C "filled" f_Reader_filled fd_Reader_filled ["self", "word", "form"]) (G_Reader_filled : FnMB P w K mg base (CXB P w) (k) f_Reader_filled fd_Reader_filled ["self", "word", "form"] (gFil C c_BadText n)) {f_Reader_told : Addr} {fd_Reader_told : FuncData} (F : Fun K "told" "Reader.told" s_Reader_told f_Reader_told fd_Reader_told) : FnMB P w K mg base (CXB P w) (k + 1) f_Reader_told fd_Reader_told ["self"] (gPar C c_BadText n (toldP (fillP n))) := by
  refine fn_mXB F sc_Reader_told (fun ds m Q E h => ?_) (fun cdv A outer s H ds m Q E E' l hc hr h hw => ?_)
  · obtain ⟨p, t, a, dp, rfl, _⟩ := h; rfl
  have nd := sc_Reader_told.nd
  obtain ⟨p, t, a, dp, rfl, R, hn, q, qe⟩ := h
  have e0 := R.e
  refine ⟨_, (mss_cons (ms_if (mw_pt (mw_and (mt_cmp (mo_neq_u (hu65H hr)) (bx_meth0 (Em := noX) (mv 0) D_Reader_sign.c D_Reader_sign.m G_Reader_sign hr hc D_Reader_sign.b pass0M) mx_str (nomark _)) (mw_and1 (mt_cmp (mo_in_u (hu65H hr)) (bx_meth0 (Em := noX) (mv 0) D_Reader_sign.c D_Reader_sign.m G_Reader_sign hr hc D_Reader_sign.b pass0M) (mx_op mo_plus (mx_gt V.FIGURES) mx_str) rfl)))) (mss_one (ms_ret (mx_tup (ma_cons mx_str (ma_cons (bx_meth0 (Em := E) (mv 0) D_Reader_number.c D_Reader_number.m G_Reader_number hr hc D_Reader_number.b (passMB (takesB_of rfl rfl rfl rfl) hw)) ma_nil))))) mss_nil)
    (mss_cons (ms_set (i := 1) nd rfl (.inl rfl) (bx_meth (Em := E) (mv 0) D_Reader_run.c D_Reader_run.m G_Reader_run hr hc D_Reader_run.b (passMB (takesB_of rfl rfl rfl rfl) hw) (ma_cons (mx_gt V.SMALL_notes) (ma_cons mx_int ma_nil))))
    (mss_cons (ms_if (mt_cmp (mo_neq_u (hu65H hr)) (bx_meth0 (Em := noX) (mv 0) D_Reader_sign.c D_Reader_sign.m G_Reader_sign hr hc D_Reader_sign.b pass0M) mx_str (nomark _)) (mss_one (ms_ret (mx_tup (ma_cons mx_str (ma_cons (mv 1) ma_nil))))) mss_nil)
    (mss_cons (ms_if (mt_cmp (mo_notin_u (hu65H hr)) (mv 1) (mx_gt V.JOINS) rfl) (mss_one (bs_raise hc (takesB_of rfl rfl rfl rfl) hw (pmkA_own PySem.F.excBase_ValueError XE.X_BadText.q XE.X_BadText.g XE.X_BadText.k XE.X_BadText.raises rfl))) mss_nil)
    (mss_one (ms_ret (bx_meth (Em := E) (mv 0) D_Reader_filled.c D_Reader_filled.m G_Reader_filled hr hc D_Reader_filled.b (passMB (takesB_of rfl rfl rfl rfl) hw) (ma_cons (mv 1) (ma_cons mx_str ma_nil))))))))), ?_⟩
  wtm_at "go"
  refine ⟨p, t, a, dp, rfl, R, fun a1 g0 g1 g2 => ?_⟩
  have R1 := R.put g1
  have e1 := R1.e
  have x1 : SubX p m (mput m p (.ins C (rdF t a1 dp))) := SubX.here
  have same : ∀ {b : Nat}, b ≤ (sg t).length → (sg t).drop b = (sg t).drop a1 → b = a1 := fun {b} hb h => by
    have := congrArg List.length h
    rw [List.length_drop, List.length_drop] at this
    omega
  by_cases hf : ∃ c q1, (sg t).drop a1 = c :: q1 ∧ inS figM c = true
  · obtain ⟨c, q1, hd, hc⟩ := hf
    have et : toldP (fillP n) ((sg t).drop a) = match numP ((sg t).drop a1) with
      | none => none
      | some (n, s) => some (.tup [.str (Str.ofString "num"), .int n], s) := by
      unfold toldP
      rw [← g2, hd]
      exact if_pos hc
    rw [et] at q qe
    wtm_at "go"
    rw [hd, sgn_ne]
    wtm_at "go"
    refine ⟨p, t, a1, dp, rfl, R1, fun b h0 h1 h2 => ?_⟩
    obtain rfl := same h1 (h2.trans (by rw [g2, skip_skip]))
    rw [hd, mput_mput]
    wtm_at "go"
    refine i_plusS (by decide +kernel) ?_
    refine ⟨_, .inr (.inl ⟨c, _, rfl, rfl, rfl⟩), ?_⟩
    rw [show decide (c ∈ (Str.ofString "0123456789" ++ Str.ofString "-").cps.toList) = true from hc]
    wtm_at "go"
    refine ⟨p, t, b, dp, rfl, R1, fun i a2 g3 g4 => ?_, fun e M x => qe (by rw [e]) _ (x1.trans x)⟩
    rw [g4] at q
    wtm_at "go"
    rw [mput_mput]
    exact RtM.mk (q _ a2 _ g3 rfl SubX.here mput_same)
  have et : toldP (fillP n) ((sg t).drop a) = toldW (fillP n) ((sg t).drop a1) := by
    unfold toldP
    rw [← g2]
    cases hd : (sg t).drop a1 with
    | nil => rfl
    | cons c q1 => exact if_neg fun hc => hf ⟨c, q1, hd, hc⟩
  rw [et] at q qe
  have hq0 : ∀ w q0, runP smallT 8 ((sg t).drop a1) = some (w, q0) → toldW (fillP n) ((sg t).drop a1) = (if (skip q0).head? = some 40 then (if strOf w ∈ joinsL then fillP n (strOf w) (Str.ofString "oo") (skip q0) else none) else some (.tup [.str (Str.ofString "read"), .str (strOf w)], skip q0)) := fun w q0 e => by unfold toldW; rw [e]
  have hq1 : runP smallT 8 ((sg t).drop a1) = none → toldW (fillP n) ((sg t).drop a1) = none := fun e => by unfold toldW; rw [e]
  rcases hd : (sg t).drop a1 with _ | ⟨c, q1⟩
  rotate_left
  wtm_at "go"
  rw [sgn_ne]
  wtm_at "go"
  refine ⟨p, t, a1, dp, rfl, R1, fun b h0 h1 h2 => ?_⟩
  rw [same h1 (h2.trans (by rw [g2, skip_skip])), hd, mput_mput]
  wtm_at "go"
  refine i_plusS (by decide +kernel) ?_
  refine ⟨_, .inr (.inl ⟨c, _, rfl, rfl, rfl⟩), ?_⟩
  rw [show decide (c ∈ (Str.ofString "0123456789" ++ Str.ofString "-").cps.toList) = false from decide_eq_false fun h => hf ⟨c, q1, hd, decide_eq_true h⟩]
  wtm_at "go"
  rotate_left
  wtm_at "go"
  all_goals
    clear hf et
    refine ⟨p, t, smallT, a1, dp, 8, rfl, R1, fun w a2 g3 g4 => ?_, fun e M x => qe (hq1 e) _ (x1.trans x)⟩
    rw [mput_mput]
    have R2 := R.put g3
    have e2 := R2.e
    have x2 : SubX p m (mput m p (.ins C (rdF t a2 dp))) := SubX.here
    wtm_at "go"
    refine ⟨p, t, a2, dp, rfl, R2, fun a3 h0 h1 h2 => ?_⟩
    rw [mput_mput]
    have R3 := R.put h1
    have e3 := R3.e
    have x3 : SubX p m (mput m p (.ins C (rdF t a3 dp))) := SubX.here
    rw [hq0 w _ g4, ← h2] at q qe
    have hpar : decide (sgn ((sg t).drop a3) = Str.ofString "(") = decide (((sg t).drop a3).head? = some 40) := by
      rw [decide_eq_decide, show Str.ofString "(" = ⟨#[40]⟩ from by decide +kernel]; exact sgn_c
    wtm_at "go"
    rw [hpar]
    by_cases cb : ((sg t).drop a3).head? = some 40
    · rw [decide_eq_true cb]
      rw [if_pos cb] at q qe
      wtm_at "go"
      refine ⟨decide (strOf w ∈ joinsL), .inl ⟨joinsL.map D.str, .inl rfl, rfl, rfl, (joins_in _).symm⟩, ?_⟩
      by_cases cj : strOf w ∈ joinsL
      · rw [decide_eq_true cj]
        rw [if_pos cj] at q qe
        wtm_at "go"
        exact ⟨p, t, strOf w, Str.ofString "oo", a3, dp, rfl, by decide +kernel, R3, hn, fun d a' M g e x eM => RtM.mk (q d a' M g e (x3.trans x) eM), fun e M x => qe e M (x3.trans x)⟩
      · rw [decide_eq_false cj]
        rw [if_neg cj] at qe
        wtm_at "go"
        exact qe rfl _ x3
    · rw [decide_eq_false cb]
      rw [if_neg cb] at q
      wtm_at "go"
      exact RtM.mk (q _ a3 _ h1 rfl x3 e3)
theorem asks_small : ∀ x f, asksL.lookup x = some f → (sg f).length ≤ 10 := fun x f h => by
  have : f ∈ asksL.map (·.2) := by
    obtain ⟨k, hk, _⟩ : ∃ k, (k, f) ∈ asksL ∧ k = x := by
      have := List.lookup_eq_some_iff.mp h
      obtain ⟨l1, l2, e, _⟩ := this
      exact ⟨x, by rw [e]; simp, rfl⟩
    exact List.mem_map.mpr ⟨_, hk, rfl⟩
  have all : ∀ g ∈ asksL.map (·.2), (sg g).length ≤ 10 := by decide +kernel
  exact all f this
theorem forms_small : ∀ x f, formsL.lookup x = some f → (sg f).length ≤ 10 := fun x f h => by
  have : f ∈ formsL.map (·.2) := by
    obtain ⟨k, hk, _⟩ : ∃ k, (k, f) ∈ formsL ∧ k = x := by
      have := List.lookup_eq_some_iff.mp h
      obtain ⟨l1, l2, e, _⟩ := this
      exact ⟨x, by rw [e]; simp, rfl⟩
    exact List.mem_map.mpr ⟨_, hk, rfl⟩
  have all : ∀ g ∈ formsL.map (·.2), (sg g).length ≤ 10 := by decide +kernel
  exact all f this
abbrev s_Reader_asked : Stmt := inClass (topS 32) 7
theorem sc_Reader_asked : FnScope ["self", "word"] ["self"] (defScope s_Reader_asked) := ⟨rfl, rfl, rfl, by decide +kernel, rfl, by decide +kernel, by decide +kernel⟩
theorem ok_Reader_asked {k n : Nat} (V : Gv K mg) {t_FORMS t_ASKS : Addr} (Dg : Gd K w mg t_FORMS t_ASKS) {c_BookError c_BadContract c_BadMarket c_TooMany c_BadText : Addr} (XE : Xcs K mg c_BookError c_BadContract c_BadMarket c_TooMany c_BadText) {C : Addr} (O : ObK K C ["text", "at", "deep"]) {f_Reader_run : Addr} {fd_Reader_run : FuncData} (D_Reader_run : Dm K C "run" f_Reader_run fd_Reader_run ["self", "signs", "most"]) (G_Reader_run : FnMB P w K mg base (CXB P w) (k) f_Reader_run fd_Reader_run ["self", "signs", "most"] (gRun C c_BadText)) {f_Reader_filled : Addr} {fd_Reader_filled : FuncData} (D_Reader_filled : Dm K C "filled" f_Reader_filled fd_Reader_filled ["self", "word", "form"]) (G_Reader_filled : FnMB P w K mg base (CXB P w) (k) f_Reader_filled fd_Reader_filled ["self", "word", "form"] (gFil C c_BadText n)) {f_Reader_asked : Addr} {fd_Reader_asked : FuncData} (F : Fun K "asked" "Reader.asked" s_Reader_asked f_Reader_asked fd_Reader_asked) : FnMB P w K mg base (CXB P w) (k + 1) f_Reader_asked fd_Reader_asked ["self"] (gPar C c_BadText n (askP (fillP n))) := by
  refine fn_mXB F sc_Reader_asked (fun ds m Q E h => ?_) (fun cdv A outer s H ds m Q E E' l hc hr h hw => ?_)
  · obtain ⟨p, t, a, dp, rfl, _⟩ := h; rfl
  have nd := sc_Reader_asked.nd
  obtain ⟨p, t, a, dp, rfl, R, hn, q, qe⟩ := h
  have e0 := R.e
  have dD : KdD K w t_ASKS asksL := Dg.d_ASKS
  refine ⟨_, (mss_cons (ms_set (i := 1) nd rfl (.inl rfl) (bx_meth (Em := E) (mv 0) D_Reader_run.c D_Reader_run.m G_Reader_run hr hc D_Reader_run.b (passMB (takesB_of rfl rfl rfl rfl) hw) (ma_cons (mx_gt V.SMALL_notes) (ma_cons mx_int ma_nil))))
    (mss_cons (ms_if (mt_cmp mo_notinKd (mv 1) (mx_gt Dg.ASKS) rfl) (mss_one (bs_raise hc (takesB_of rfl rfl rfl rfl) hw (pmkA_own PySem.F.excBase_ValueError XE.X_BadText.q XE.X_BadText.g XE.X_BadText.k XE.X_BadText.raises rfl))) mss_nil)
    (mss_one (ms_ret (bx_meth (Em := E) (mv 0) D_Reader_filled.c D_Reader_filled.m G_Reader_filled hr hc D_Reader_filled.b (passMB (takesB_of rfl rfl rfl rfl) hw) (ma_cons (mv 1) (ma_cons (mx_ix mi_subKd (mx_gt Dg.ASKS) (mv 1)) ma_nil))))))), ?_⟩
  unfold askP at q qe
  wtm_at "go"
  refine ⟨p, t, smallT, a, dp, 8, rfl, R, fun w a2 g3 g4 => ?_, fun e M x => qe (by rw [e]) _ x⟩
  have R2 := R.put g3
  have e2 := R2.e
  have x2 : SubX p m (mput m p (.ins C (rdF t a2 dp))) := SubX.here
  rw [g4] at q qe
  dsimp only at q qe
  wtm_at "go"
  refine i_inKd dD ?_
  cases hl : asksL.lookup (strOf w) with
  | none =>
    wtm_at "go"
    exact qe (by rw [hl]) _ x2
  | some f =>
    wtm_at "go"
    refine i_subKd dD hl ?_
    wtm_at "go"
    exact ⟨p, t, strOf w, f, a2, dp, rfl, asks_small _ _ hl, R2, hn, fun d a' M g e x eM => RtM.mk (q d a' M g (by rw [hl]; exact e) (x2.trans x) eM), fun e M x => qe (by rw [hl]; exact e) M (x2.trans x)⟩
abbrev s_Reader_contract : Stmt := inClass (topS 32) 8
theorem sc_Reader_contract : FnScope ["self", "word"] ["self"] (defScope s_Reader_contract) := ⟨rfl, rfl, rfl, by decide +kernel, rfl, by decide +kernel, by decide +kernel⟩
theorem ok_Reader_contract {k n : Nat} (V : Gv K mg) {t_FORMS t_ASKS : Addr} (Dg : Gd K w mg t_FORMS t_ASKS) {c_BookError c_BadContract c_BadMarket c_TooMany c_BadText : Addr} (XE : Xcs K mg c_BookError c_BadContract c_BadMarket c_TooMany c_BadText) {C : Addr} (O : ObK K C ["text", "at", "deep"]) {f_Reader_run : Addr} {fd_Reader_run : FuncData} (D_Reader_run : Dm K C "run" f_Reader_run fd_Reader_run ["self", "signs", "most"]) (G_Reader_run : FnMB P w K mg base (CXB P w) (k) f_Reader_run fd_Reader_run ["self", "signs", "most"] (gRun C c_BadText)) {f_Reader_filled : Addr} {fd_Reader_filled : FuncData} (D_Reader_filled : Dm K C "filled" f_Reader_filled fd_Reader_filled ["self", "word", "form"]) (G_Reader_filled : FnMB P w K mg base (CXB P w) (k) f_Reader_filled fd_Reader_filled ["self", "word", "form"] (gFil C c_BadText n)) {f_Reader_contract : Addr} {fd_Reader_contract : FuncData} (F : Fun K "contract" "Reader.contract" s_Reader_contract f_Reader_contract fd_Reader_contract) : FnMB P w K mg base (CXB P w) (k + 1) f_Reader_contract fd_Reader_contract ["self"] (gPar C c_BadText n (conP (fillP n))) := by
  refine fn_mXB F sc_Reader_contract (fun ds m Q E h => ?_) (fun cdv A outer s H ds m Q E E' l hc hr h hw => ?_)
  · obtain ⟨p, t, a, dp, rfl, _⟩ := h; rfl
  have nd := sc_Reader_contract.nd
  obtain ⟨p, t, a, dp, rfl, R, hn, q, qe⟩ := h
  have e0 := R.e
  have dD : KdD K w t_FORMS formsL := Dg.d_FORMS
  refine ⟨_, (mss_cons (ms_set (i := 1) nd rfl (.inl rfl) (bx_meth (Em := E) (mv 0) D_Reader_run.c D_Reader_run.m G_Reader_run hr hc D_Reader_run.b (passMB (takesB_of rfl rfl rfl rfl) hw) (ma_cons (mx_gt V.SMALL_notes) (ma_cons mx_int ma_nil))))
    (mss_cons (ms_if (mt_cmp mo_notinKd (mv 1) (mx_gt Dg.FORMS) rfl) (mss_one (bs_raise hc (takesB_of rfl rfl rfl rfl) hw (pmkA_own PySem.F.excBase_ValueError XE.X_BadText.q XE.X_BadText.g XE.X_BadText.k XE.X_BadText.raises rfl))) mss_nil)
    (mss_one (ms_ret (mx_if (mt_cmp (mo_eqq_u (hu65H hr)) (mv 1) mx_str (nomark _)) (mx_tup (ma_cons (mv 1) ma_nil)) (bx_meth (Em := E) (mv 0) D_Reader_filled.c D_Reader_filled.m G_Reader_filled hr hc D_Reader_filled.b (passMB (takesB_of rfl rfl rfl rfl) hw) (ma_cons (mv 1) (ma_cons (mx_ix mi_subKd (mx_gt Dg.FORMS) (mv 1)) ma_nil)))))))), ?_⟩
  unfold conP at q qe
  wtm_at "go"
  refine ⟨p, t, smallT, a, dp, 8, rfl, R, fun w a2 g3 g4 => ?_, fun e M x => qe (by rw [e]) _ x⟩
  have R2 := R.put g3
  have e2 := R2.e
  have x2 : SubX p m (mput m p (.ins C (rdF t a2 dp))) := SubX.here
  rw [g4] at q qe
  dsimp only at q qe
  wtm_at "go"
  refine i_inKd dD ?_
  cases hl : formsL.lookup (strOf w) with
  | none =>
    wtm_at "go"
    exact qe (by rw [hl]) _ x2
  | some f =>
    wtm_at "go"
    by_cases cn : strOf w = Str.ofString "none"
    · rw [decide_eq_true cn]
      wtm_at "go"
      exact RtM.mk (q _ a2 _ g3 (by rw [hl]; exact if_pos cn) x2 e2)
    · rw [decide_eq_false cn]
      wtm_at "go"
      refine i_subKd dD hl ?_
      wtm_at "go"
      exact ⟨p, t, strOf w, f, a2, dp, rfl, forms_small _ _ hl, R2, hn, fun d a' M g e x eM => RtM.mk (q d a' M g (by rw [hl]; exact (if_neg cn).trans e) (x2.trans x) eM), fun e M x => qe (by rw [hl]; exact (if_neg cn).trans e) M (x2.trans x)⟩
def gPie (C cB : Addr) (n : Nat) : SpM := fun ds m Q E => ∃ (p : Addr) (t z : Str) (a dp c : Nat), ds = [.ref p, .str z] ∧ z = ⟨#[c]⟩ ∧ RdS C m p t a dp ∧ dp + n = 40 ∧
  (∀ d a' M, a' ≤ (sg t).length → pieceP (fillP n) c ((sg t).drop a) = some (d, (sg t).drop a') → SubX p m M → M p = some (.ins C (rdF t a' dp)) → Q d M) ∧ (pieceP (fillP n) c ((sg t).drop a) = none → ∀ M, SubX p m M → E cB M)
theorem one_sgn {c e : Nat} {s : String} (h : Str.ofString s = ⟨#[e]⟩) : decide ((⟨#[c]⟩ : Str) = Str.ofString s) = decide (c = e) := by
  rw [decide_eq_decide, h]; simp
abbrev s_Reader_piece : Stmt := inClass (topS 32) 10
theorem sc_Reader_piece : FnScope ["self", "sort"] ["self", "sort"] (defScope s_Reader_piece) := ⟨rfl, rfl, rfl, by decide +kernel, rfl, by decide +kernel, by decide +kernel⟩
theorem ok_Reader_piece {k n : Nat} (V : Gv K mg) {c_BookError c_BadContract c_BadMarket c_TooMany c_BadText : Addr} (XE : Xcs K mg c_BookError c_BadContract c_BadMarket c_TooMany c_BadText) {C : Addr} (O : ObK K C ["text", "at", "deep"]) {f_Reader_run : Addr} {fd_Reader_run : FuncData} (D_Reader_run : Dm K C "run" f_Reader_run fd_Reader_run ["self", "signs", "most"]) (G_Reader_run : FnMB P w K mg base (CXB P w) (k) f_Reader_run fd_Reader_run ["self", "signs", "most"] (gRun C c_BadText)) {f_Reader_number : Addr} {fd_Reader_number : FuncData} (D_Reader_number : Dm K C "number" f_Reader_number fd_Reader_number ["self"]) (G_Reader_number : FnMB P w K mg base (CXB P w) (k) f_Reader_number fd_Reader_number ["self"] (gNumber C c_BadText)) {f_Reader_told : Addr} {fd_Reader_told : FuncData} (D_Reader_told : Dm K C "told" f_Reader_told fd_Reader_told ["self"]) (G_Reader_told : FnMB P w K mg base (CXB P w) (k) f_Reader_told fd_Reader_told ["self"] (gPar C c_BadText n (toldP (fillP n)))) {f_Reader_asked : Addr} {fd_Reader_asked : FuncData} (D_Reader_asked : Dm K C "asked" f_Reader_asked fd_Reader_asked ["self"]) (G_Reader_asked : FnMB P w K mg base (CXB P w) (k) f_Reader_asked fd_Reader_asked ["self"] (gPar C c_BadText n (askP (fillP n)))) {f_Reader_contract : Addr} {fd_Reader_contract : FuncData} (D_Reader_contract : Dm K C "contract" f_Reader_contract fd_Reader_contract ["self"]) (G_Reader_contract : FnMB P w K mg base (CXB P w) (k) f_Reader_contract fd_Reader_contract ["self"] (gPar C c_BadText n (conP (fillP n)))) {f_Reader_piece : Addr} {fd_Reader_piece : FuncData} (F : Fun K "piece" "Reader.piece" s_Reader_piece f_Reader_piece fd_Reader_piece) : FnMB P w K mg base (CXB P w) (k + 1) f_Reader_piece fd_Reader_piece ["self", "sort"] (gPie C c_BadText n) := by
  refine fn_mXB F sc_Reader_piece (fun ds m Q E h => ?_) (fun cdv A outer s H ds m Q E E' l hc hr h hw => ?_)
  · obtain ⟨p, t, z, a, dp, c, rfl, _⟩ := h; rfl
  have nd := sc_Reader_piece.nd
  obtain ⟨p, t, z, a, dp, c, rfl, rfl, R, hn, q, qe⟩ := h
  have e0 := R.e
  refine ⟨_, (mss_cons (ms_if (mt_cmp (mo_eqq_u (hu65H hr)) (mv 1) mx_str (nomark _)) (mss_one (ms_ret (bx_meth (Em := E) (mv 0) D_Reader_run.c D_Reader_run.m G_Reader_run hr hc D_Reader_run.b (passMB (takesB_of rfl rfl rfl rfl) hw) (ma_cons (mx_gt V.SMALL_notes) (ma_cons mx_int ma_nil))))) mss_nil)
    (mss_cons (ms_if (mt_cmp (mo_eqq_u (hu65H hr)) (mv 1) mx_str (nomark _)) (mss_one (ms_ret (bx_meth0 (Em := E) (mv 0) D_Reader_number.c D_Reader_number.m G_Reader_number hr hc D_Reader_number.b (passMB (takesB_of rfl rfl rfl rfl) hw)))) mss_nil)
    (mss_cons (ms_if (mt_cmp (mo_eqq_u (hu65H hr)) (mv 1) mx_str (nomark _)) (mss_one (ms_ret (bx_meth0 (Em := E) (mv 0) D_Reader_told.c D_Reader_told.m G_Reader_told hr hc D_Reader_told.b (passMB (takesB_of rfl rfl rfl rfl) hw)))) mss_nil)
    (mss_cons (ms_if (mt_cmp (mo_eqq_u (hu65H hr)) (mv 1) mx_str (nomark _)) (mss_one (ms_ret (bx_meth0 (Em := E) (mv 0) D_Reader_asked.c D_Reader_asked.m G_Reader_asked hr hc D_Reader_asked.b (passMB (takesB_of rfl rfl rfl rfl) hw)))) mss_nil)
    (mss_one (ms_ret (bx_meth0 (Em := E) (mv 0) D_Reader_contract.c D_Reader_contract.m G_Reader_contract hr hc D_Reader_contract.b (passMB (takesB_of rfl rfl rfl rfl) hw)))))))), ?_⟩
  unfold pieceP at q qe
  wtm_at "go"
  rw [one_sgn (e := 119) (by decide +kernel)]
  by_cases c1 : c = 119
  · rw [decide_eq_true c1]
    rw [if_pos c1] at q qe
    wtm_at "go"
    refine ⟨p, t, smallT, a, dp, 8, rfl, R, fun w a2 g3 g4 => RtM.mk (q _ a2 _ g3 (by rw [g4]) SubX.here mput_same), fun e M x => qe (by rw [e]) _ x⟩
  rw [decide_eq_false c1]
  rw [if_neg c1] at q qe
  wtm_at "go"
  rw [one_sgn (e := 110) (by decide +kernel)]
  by_cases c2 : c = 110
  · rw [decide_eq_true c2]
    rw [if_pos c2] at q qe
    wtm_at "go"
    refine ⟨p, t, a, dp, rfl, R, fun i a2 g3 g4 => RtM.mk (q _ a2 _ g3 (by rw [g4]) SubX.here mput_same), fun e M x => qe (by rw [e]) _ x⟩
  rw [decide_eq_false c2]
  rw [if_neg c2] at q qe
  wtm_at "go"
  rw [one_sgn (e := 111) (by decide +kernel)]
  by_cases c3 : c = 111
  · rw [decide_eq_true c3]
    rw [if_pos c3] at q qe
    wtm_at "go"
    exact ⟨p, t, a, dp, rfl, R, hn, fun d a' M g e x eM => RtM.mk (q d a' M g e x eM), qe⟩
  rw [decide_eq_false c3]
  rw [if_neg c3] at q qe
  wtm_at "go"
  rw [one_sgn (e := 97) (by decide +kernel)]
  by_cases c4 : c = 97
  · rw [decide_eq_true c4]
    rw [if_pos c4] at q qe
    wtm_at "go"
    exact ⟨p, t, a, dp, rfl, R, hn, fun d a' M g e x eM => RtM.mk (q d a' M g e x eM), qe⟩
  rw [decide_eq_false c4]
  rw [if_neg c4] at q qe
  wtm_at "go"
  exact ⟨p, t, a, dp, rfl, R, hn, fun d a' M g e x eM => RtM.mk (q d a' M g e x eM), qe⟩
theorem piecesP_cons {P : Nat → Par} {first : Bool} {c : Nat} {form r : List Nat} : piecesP P first (c :: form) r = match (if first = true then some r else needP 44 r) with
    | none => none
    | some r1 => match P c r1 with
      | none => none
      | some (d, r2) => match piecesP P false form r2 with
        | none => none
        | some (ds, r3) => some (d :: ds, r3) := rfl
theorem rdD_drop {n k : Nat} {d : D} {r : List D} (h : d :: r = (rangeD 0 n).drop k) : d = .int (k : Nat) ∧ r = (rangeD 0 n).drop (k + 1) ∧ k < n := by
  have hl : k < (rangeD 0 n).length := by
    refine Nat.lt_of_not_le fun z => ?_
    rw [List.drop_eq_nil_of_le z] at h; cases h
  rw [List.drop_eq_getElem_cons hl] at h
  injection h with h1 h2
  rw [show (rangeD 0 n).length = n by unfold rangeD; simp] at hl
  exact ⟨h1.trans (by simp [rangeD]), h2, hl⟩
theorem rdD_nil {n k : Nat} (h : [] = (rangeD 0 n).drop k) (hk : k ≤ n) : k = n := by
  have := congrArg List.length h
  simp [rangeD] at this
  omega
abbrev s_Reader_filled : Stmt := inClass (topS 32) 9
theorem sc_Reader_filled : FnScope ["self", "word", "form", "found", "k"] ["self", "word", "form"] (defScope s_Reader_filled) := ⟨rfl, rfl, rfl, by decide +kernel, rfl, by decide +kernel, by decide +kernel⟩
theorem ok_Reader_filled {k n : Nat} (V : Gv K mg) (Z : Bl mg) {c_BookError c_BadContract c_BadMarket c_TooMany c_BadText : Addr} (XE : Xcs K mg c_BookError c_BadContract c_BadMarket c_TooMany c_BadText) {C : Addr} (O : ObK K C ["text", "at", "deep"]) {f_Reader_need : Addr} {fd_Reader_need : FuncData} (D_Reader_need : Dm K C "need" f_Reader_need fd_Reader_need ["self", "sign"]) (G_Reader_need : FnMB P w K mg base (CXB P w) (k) f_Reader_need fd_Reader_need ["self", "sign"] (gNeed C c_BadText)) {f_Reader_piece : Addr} {fd_Reader_piece : FuncData} (D_Reader_piece : Dm K C "piece" f_Reader_piece fd_Reader_piece ["self", "sort"]) (G_Reader_piece : FnMB P w K mg base (CXB P w) (k) f_Reader_piece fd_Reader_piece ["self", "sort"] (gPie C c_BadText n)) {f_Reader_filled : Addr} {fd_Reader_filled : FuncData} (F : Fun K "filled" "Reader.filled" s_Reader_filled f_Reader_filled fd_Reader_filled) : FnMB P w K mg base (CXB P w) (k + 1) f_Reader_filled fd_Reader_filled ["self", "word", "form"] (gFil C c_BadText (n + 1)) := by
  refine fn_mXB F sc_Reader_filled (fun ds m Q E h => ?_) (fun cdv A outer s H ds m Q E E' l hc hr h hw => ?_)
  · obtain ⟨p, t, w, form, a, dp, rfl, _⟩ := h; rfl
  have nd := sc_Reader_filled.nd
  obtain ⟨p, t, w, form, a, dp, rfl, hfl, R, hn, q, qe⟩ := h
  have e0 := R.e
  refine ⟨_, (mss_cons (ms_expr (bx_meth (Em := E) (mv 0) D_Reader_need.c D_Reader_need.m G_Reader_need hr hc D_Reader_need.b (passMB (takesB_of rfl rfl rfl rfl) hw) (ma_cons mx_str ma_nil)))
    (mss_cons (ms_fld (mv 0) (mx_op mo_plus (mx_fld (mv 0) rfl) mx_int) rfl)
    (mss_cons (ms_if (mt_cmp mo_gt (mx_fld (mv 0) rfl) (mx_gt V.MOST_OPEN) (nomark _)) (mss_one (bs_raise hc (takesB_of rfl rfl rfl rfl) hw (pmkA_own PySem.F.excBase_ValueError XE.X_BadText.q XE.X_BadText.g XE.X_BadText.k XE.X_BadText.raises rfl))) mss_nil)
    (mss_cons (ms_set (i := 3) nd rfl (.inl rfl) (mx_lst (ma_cons (mv 1) ma_nil)))
    (mss_cons (bs_for (passes_of rfl) hc (bi_range1 Z.b_range (ma_cons (mx_callB mc_len1 Z.b_len (ma_cons (mv 2) ma_nil)) ma_nil)) (mg_name (i := 4) nd rfl (.inl rfl)) (mss_cons (ms_if (mt_cmp mo_gt (mv 4) mx_int (nomark _)) (mss_one (ms_expr (bx_meth (Em := E) (mv 0) D_Reader_need.c D_Reader_need.m G_Reader_need hr hc D_Reader_need.b (passMB (takesB_of rfl rfl rfl rfl) hw) (ma_cons mx_str ma_nil)))) mss_nil)
    (mss_one (ms_expr (mx_append (mv 3) (bx_meth (Em := E) (mv 0) D_Reader_piece.c D_Reader_piece.m G_Reader_piece hr hc D_Reader_piece.b (passMB (takesB_of rfl rfl rfl rfl) hw) (ma_cons (mx_ix (mi_sub_u (hu65H hr)) (mv 2) (mv 4)) ma_nil)))))))
    (mss_cons (ms_expr (bx_meth (Em := E) (mv 0) D_Reader_need.c D_Reader_need.m G_Reader_need hr hc D_Reader_need.b (passMB (takesB_of rfl rfl rfl rfl) hw) (ma_cons mx_str ma_nil)))
    (mss_cons (ms_fld (mv 0) (mx_op mo_sub (mx_fld (mv 0) rfl) mx_int) rfl)
    (mss_one (ms_ret (mx_callTy mc_tuple1 Z.b_tuple (ma_cons (mv 3) ma_nil))))))))))), ?_⟩
  unfold fillP at q qe
  wtm_at "go"
  refine ⟨p, t, _, a, dp, 40, rfl, by decide +kernel, R, fun a1 g1 g2 => ?_, fun e M x => qe (by rw [e]) _ x⟩
  have R1 := R.put g1
  have e1 := R1.e
  rw [g2] at q qe
  dsimp only at q qe
  wtm_at "go"
  refine i_setF e1 O (by simp) (by show 3 < 1000; decide) ?_
  rw [show (dp : Int) + 1 = ((dp + 1 : Nat) : Int) from rfl, rdF_pdeep, mput_mput]
  have e2 : mput m p (.ins C (rdF t a1 (dp + 1))) p = some (.ins C (rdF t a1 (dp + 1))) := mput_same
  wtm_at "go"
  intro pf hpf
  have npf : pf ≠ p := by rintro rfl; rw [e2] at hpf; cases hpf
  have hpm : m pf = none := by rw [mput_ne npf] at hpf; exact hpf
  have x3 : SubX p m (mput (mput m p (.ins C (rdF t a1 (dp + 1)))) pf (.lst [.str w])) := SubX.here.put hpm
  have e3 : mput (mput m p (.ins C (rdF t a1 (dp + 1)))) pf (.lst [.str w]) p = some (.ins C (rdF t a1 (dp + 1))) := by rw [mput_ne npf.symm]; exact e2
  have ef : mput (mput m p (.ins C (rdF t a1 (dp + 1)))) pf (.lst [.str w]) pf = some (.lst [.str w]) := mput_same
  generalize mput (mput m p (.ins C (rdF t a1 (dp + 1)))) pf (.lst [.str w]) = M3 at x3 e3 ef ⊢
  have hfz : form.length ≤ sizeLine := by rw [str_len]; exact Nat.le_trans hfl (by decide)
  wtm_at "go"
  refine i_lenS hfz ?_
  rw [str_len]
  wtm_at "go"
  refine ⟨by omega, by omega, ?_⟩
  rw [Int.toNat_natCast]
  refine forC_ind (fun rest ρ M => ∃ (j : Nat) (ds : List D) (a2 : Nat) (e4 : Option D), j ≤ (sg form).length ∧ rest = (rangeD 0 (sg form).length).drop j ∧ ρ = [some (.ref p), some (.str w), some (.str form), some (.ref pf), e4] ∧ a2 ≤ (sg t).length ∧
    piecesP (pieceP (fillP n)) true (sg form) ((sg t).drop a1) = (match piecesP (pieceP (fillP n)) (decide (j = 0)) ((sg form).drop j) ((sg t).drop a2) with | none => none | some (es, r) => some (ds ++ es, r)) ∧
    SubX p m M ∧ M p = some (.ins C (rdF t a2 (dp + 1))) ∧ M pf = some (.lst (.str w :: ds)) ∧ ds.length ≤ j) ⟨0, [], a1, none, Nat.zero_le _, rfl, rfl, g1, ?_, x3, e3, ef, Nat.zero_le _⟩ ?_ ?_
  · rw [decide_eq_true rfl, List.drop_zero]
    cases piecesP (pieceP (fillP n)) true (sg form) ((sg t).drop a1) with
    | none => rfl
    | some x => rfl
  · rintro ρ M ⟨j, ds, a2, e4, hj, er, rfl, g3, hP, xM, eM, efM, hdl⟩
    obtain rfl := rdD_nil er hj
    rw [List.drop_length, show piecesP (pieceP (fillP n)) (decide ((sg form).length = 0)) [] ((sg t).drop a2) = some ([], (sg t).drop a2) from by cases decide ((sg form).length = 0) <;> rfl] at hP
    dsimp only at hP
    rw [List.append_nil] at hP
    rw [hP] at q qe
    dsimp only at q qe
    refine ⟨trivial, ?_⟩
    have RM : RdS C M p t a2 (dp + 1) := ⟨eM, g3, R.l⟩
    wtm_at "go"
    refine ⟨p, t, _, a2, dp + 1, 41, rfl, by decide +kernel, RM, fun a3 g4 g5 => ?_, fun e N x => qe (by rw [e]) _ (xM.trans x)⟩
    rw [g5] at q
    dsimp only at q
    have e5 : mput M p (.ins C (rdF t a3 (dp + 1))) p = some (.ins C (rdF t a3 (dp + 1))) := mput_same
    wtm_at "go"
    refine i_setF e5 O (by simp) (by show 3 < 1000; decide) ?_
    rw [show ((dp + 1 : Nat) : Int) - 1 = (dp : Int) by omega, rdF_pdeep, mput_mput]
    have efN : rdM (mput M p (.ins C (rdF t a3 dp))) pf = some (.lst (.str w :: ds)) := rd_L ((mput_ne npf).trans efM)
    wtm_at "go"
    exact RtM.mk (q _ a3 _ g4 rfl (xM.trans SubX.here) mput_same)
  · rintro d rest ρ M K2 hK ⟨j, ds, a2, e4, hj, er, rfl, g3, hP, xM, eM, efM, hdl⟩
    obtain ⟨rfl, er, hj⟩ := rdD_drop er
    refine ⟨trivial, ?_⟩
    obtain ⟨c, hc⟩ : ∃ c, (sg form)[j]? = some c := ⟨(sg form)[j], by simp [hj]⟩
    have hdr : (sg form).drop j = c :: (sg form).drop (j + 1) := by
      rw [List.drop_eq_getElem_cons hj]
      rw [List.getElem?_eq_getElem hj] at hc
      rw [Option.some.inj hc]
    rw [hdr] at hP
    have RM : RdS C M p t a2 (dp + 1) := ⟨eM, g3, R.l⟩
    have hn' : dp + 1 + n = 40 := by omega
    have step : ∀ {a3 : Nat}, (if decide (j = 0) = true then some ((sg t).drop a2) else needP 44 ((sg t).drop a2)) = some ((sg t).drop a3) → piecesP (pieceP (fillP n)) true (sg form) ((sg t).drop a1) = match pieceP (fillP n) c ((sg t).drop a3) with
        | none => none
        | some (d, r2) => match piecesP (pieceP (fillP n)) false ((sg form).drop (j + 1)) r2 with
          | none => none
          | some (es, r3) => some (ds ++ d :: es, r3) := fun {a3} h => by
      rw [hP]
      rw [piecesP_cons, h]
      dsimp only
      cases pieceP (fillP n) c ((sg t).drop a3) with
      | none => rfl
      | some x =>
        obtain ⟨d, r2⟩ := x
        dsimp only
        cases piecesP (pieceP (fillP n)) false ((sg form).drop (j + 1)) r2 with
        | none => rfl
        | some y => rfl
    have rest : ∀ {a3 : Nat} {M' : Mem}, a3 ≤ (sg t).length → SubX p m M' → M' p = some (.ins C (rdF t a3 (dp + 1))) → M' pf = some (.lst (.str w :: ds)) → (if decide (j = 0) = true then some ((sg t).drop a2) else needP 44 ((sg t).drop a2)) = some ((sg t).drop a3) →
        gPie C c_BadText n [.ref p, .str ⟨#[c]⟩] M' (fun d m2 => ∃ es, m2 pf = some (.lst es) ∧ es.length < sizeLine ∧ K2 [some (.ref p), some (.str w), some (.str form), some (.ref pf), some (.int (j : Int))] (mput m2 pf (.lst (es ++ [d])))) E := fun {a3 M'} h1 h2 h3 h4 h5 => by
      have st := step h5
      refine ⟨p, t, _, a3, dp + 1, c, rfl, rfl, ⟨h3, h1, R.l⟩, hn', fun d a4 M4 g6 g7 x4 e4' => ?_, fun e N x => qe (by rw [st, e]) _ (h2.trans x)⟩
      rw [g7] at st
      dsimp only at st
      have ef4 := x4 _ _ h4 npf
      refine ⟨_, ef4, Nat.lt_of_le_of_lt (m := 11) (by simp; omega) (by decide), hK _ _ ⟨j + 1, ds ++ [d], a4, _, hj, er, rfl, g6, ?_, ?_, ?_, ?_, by rw [List.length_append]; simp; omega⟩⟩
      · rw [st, decide_eq_false (Nat.succ_ne_zero j)]
        cases piecesP (pieceP (fillP n)) false ((sg form).drop (j + 1)) ((sg t).drop a4) with
        | none => rfl
        | some y => obtain ⟨es, r⟩ := y; simp
      · exact (h2.trans x4).put hpm
      · rw [mput_ne npf.symm]; exact e4'
      · rw [mput_same]; rfl
    wtm_at "go"
    by_cases j0 : j = 0
    · subst j0
      wtm_at "go"
      refine ⟨⟨_, rd_L efM⟩, ?_⟩
      wtm_at "go"
      refine i_subS hfz (atI_nat hc) ?_
      wtm_at "go"
      exact rest g3 xM eM efM (if_pos (decide_eq_true rfl))
    · rw [decide_eq_true (show (0 : Int) < (j : Int) by omega)]
      wtm_at "go"
      refine ⟨p, t, _, a2, dp + 1, 44, rfl, by decide +kernel, RM, fun a3 g4 g5 => ?_, fun e N x => qe (by rw [hP, piecesP_cons, decide_eq_false j0, if_neg Bool.false_ne_true, e]) _ (xM.trans x)⟩
      have e5 : mput M p (.ins C (rdF t a3 (dp + 1))) p = some (.ins C (rdF t a3 (dp + 1))) := mput_same
      have ef5 : mput M p (.ins C (rdF t a3 (dp + 1))) pf = some (.lst (.str w :: ds)) := (mput_ne npf).trans efM
      wtm_at "go"
      refine ⟨⟨_, rd_L ef5⟩, ?_⟩
      wtm_at "go"
      refine i_subS hfz (atI_nat hc) ?_
      wtm_at "go"
      exact rest g4 (xM.trans SubX.here) e5 ef5 ((if_neg (by rw [decide_eq_false j0]; exact Bool.false_ne_true)).trans g5)
theorem ok_Reader_filled0 {k : Nat} (V : Gv K mg) (Z : Bl mg) {c_BookError c_BadContract c_BadMarket c_TooMany c_BadText : Addr} (XE : Xcs K mg c_BookError c_BadContract c_BadMarket c_TooMany c_BadText) {C : Addr} (O : ObK K C ["text", "at", "deep"]) {f_Reader_need : Addr} {fd_Reader_need : FuncData} (D_Reader_need : Dm K C "need" f_Reader_need fd_Reader_need ["self", "sign"]) (G_Reader_need : FnMB P w K mg base (CXB P w) (k) f_Reader_need fd_Reader_need ["self", "sign"] (gNeed C c_BadText)) {f_Reader_piece : Addr} {fd_Reader_piece : FuncData} (D_Reader_piece : Dm K C "piece" f_Reader_piece fd_Reader_piece ["self", "sort"]) (G_Reader_piece : FnMB P w K mg base (CXB P w) (k) f_Reader_piece fd_Reader_piece ["self", "sort"] ((fun _ _ _ _ => False))) {f_Reader_filled : Addr} {fd_Reader_filled : FuncData} (F : Fun K "filled" "Reader.filled" s_Reader_filled f_Reader_filled fd_Reader_filled) : FnMB P w K mg base (CXB P w) (k + 1) f_Reader_filled fd_Reader_filled ["self", "word", "form"] (gFil C c_BadText 0) := by
  refine fn_mXB F sc_Reader_filled (fun ds m Q E h => ?_) (fun cdv A outer s H ds m Q E E' l hc hr h hw => ?_)
  · obtain ⟨p, t, w, form, a, dp, rfl, _⟩ := h; rfl
  have nd := sc_Reader_filled.nd
  obtain ⟨p, t, w, form, a, dp, rfl, hfl, R, hn, q, qe⟩ := h
  have e0 := R.e
  refine ⟨_, (mss_cons (ms_expr (bx_meth (Em := E) (mv 0) D_Reader_need.c D_Reader_need.m G_Reader_need hr hc D_Reader_need.b (passMB (takesB_of rfl rfl rfl rfl) hw) (ma_cons mx_str ma_nil)))
    (mss_cons (ms_fld (mv 0) (mx_op mo_plus (mx_fld (mv 0) rfl) mx_int) rfl)
    (mss_cons (ms_if (mt_cmp mo_gt (mx_fld (mv 0) rfl) (mx_gt V.MOST_OPEN) (nomark _)) (mss_one (bs_raise hc (takesB_of rfl rfl rfl rfl) hw (pmkA_own PySem.F.excBase_ValueError XE.X_BadText.q XE.X_BadText.g XE.X_BadText.k XE.X_BadText.raises rfl))) mss_nil)
    (mss_cons (ms_set (i := 3) nd rfl (.inl rfl) (mx_lst (ma_cons (mv 1) ma_nil)))
    (mss_cons (bs_for (passes_of rfl) hc (bi_range1 Z.b_range (ma_cons (mx_callB mc_len1 Z.b_len (ma_cons (mv 2) ma_nil)) ma_nil)) (mg_name (i := 4) nd rfl (.inl rfl)) (mss_cons (ms_if (mt_cmp mo_gt (mv 4) mx_int (nomark _)) (mss_one (ms_expr (bx_meth (Em := E) (mv 0) D_Reader_need.c D_Reader_need.m G_Reader_need hr hc D_Reader_need.b (passMB (takesB_of rfl rfl rfl rfl) hw) (ma_cons mx_str ma_nil)))) mss_nil)
    (mss_one (ms_expr (mx_append (mv 3) (bx_meth (Em := E) (mv 0) D_Reader_piece.c D_Reader_piece.m G_Reader_piece hr hc D_Reader_piece.b (passMB (takesB_of rfl rfl rfl rfl) hw) (ma_cons (mx_ix (mi_sub_u (hu65H hr)) (mv 2) (mv 4)) ma_nil)))))))
    (mss_cons (ms_expr (bx_meth (Em := E) (mv 0) D_Reader_need.c D_Reader_need.m G_Reader_need hr hc D_Reader_need.b (passMB (takesB_of rfl rfl rfl rfl) hw) (ma_cons mx_str ma_nil)))
    (mss_cons (ms_fld (mv 0) (mx_op mo_sub (mx_fld (mv 0) rfl) mx_int) rfl)
    (mss_one (ms_ret (mx_callTy mc_tuple1 Z.b_tuple (ma_cons (mv 3) ma_nil))))))))))), ?_⟩
  wtm_at "go"
  refine ⟨p, t, _, a, dp, 40, rfl, by decide +kernel, R, fun a1 g1 g2 => ?_, fun e M x => qe rfl _ x⟩
  have R1 := R.put g1
  have e1 := R1.e
  wtm_at "go"
  refine i_setF e1 O (by simp) (by show 3 < 1000; decide) ?_
  rw [show (dp : Int) + 1 = ((dp + 1 : Nat) : Int) from rfl, rdF_pdeep, mput_mput]
  have e2 : mput m p (.ins C (rdF t a1 (dp + 1))) p = some (.ins C (rdF t a1 (dp + 1))) := mput_same
  wtm_at "go"
  exact qe rfl _ SubX.here
theorem fin_Reader_filled {c : Nat} (V : Gv K mg) (Z : Bl mg) {t_FORMS t_ASKS : Addr} (Dg : Gd K w mg t_FORMS t_ASKS) {c_BookError c_BadContract c_BadMarket c_TooMany c_BadText : Addr} (XE : Xcs K mg c_BookError c_BadContract c_BadMarket c_TooMany c_BadText) {C : Addr} (O : ObK K C ["text", "at", "deep"]) {f_Reader_sign : Addr} {fd_Reader_sign : FuncData} (D_Reader_sign : Dm K C "sign" f_Reader_sign fd_Reader_sign ["self"]) (G_Reader_sign : FnMB P w K mg base CX0 (c) f_Reader_sign fd_Reader_sign ["self"] (gSign C)) {f_Reader_need : Addr} {fd_Reader_need : FuncData} (D_Reader_need : Dm K C "need" f_Reader_need fd_Reader_need ["self", "sign"]) (G_Reader_need : FnMB P w K mg base (CXB P w) (c) f_Reader_need fd_Reader_need ["self", "sign"] (gNeed C c_BadText)) {f_Reader_run : Addr} {fd_Reader_run : FuncData} (D_Reader_run : Dm K C "run" f_Reader_run fd_Reader_run ["self", "signs", "most"]) (G_Reader_run : FnMB P w K mg base (CXB P w) (c) f_Reader_run fd_Reader_run ["self", "signs", "most"] (gRun C c_BadText)) {f_Reader_number : Addr} {fd_Reader_number : FuncData} (D_Reader_number : Dm K C "number" f_Reader_number fd_Reader_number ["self"]) (G_Reader_number : FnMB P w K mg base (CXB P w) (c) f_Reader_number fd_Reader_number ["self"] (gNumber C c_BadText))
    {f_Reader_told : Addr} {fd_Reader_told : FuncData} (D_Reader_told : Dm K C "told" f_Reader_told fd_Reader_told ["self"]) (F_told : Fun K "told" "Reader.told" s_Reader_told f_Reader_told fd_Reader_told)
    {f_Reader_asked : Addr} {fd_Reader_asked : FuncData} (D_Reader_asked : Dm K C "asked" f_Reader_asked fd_Reader_asked ["self"]) (F_asked : Fun K "asked" "Reader.asked" s_Reader_asked f_Reader_asked fd_Reader_asked)
    {f_Reader_contract : Addr} {fd_Reader_contract : FuncData} (D_Reader_contract : Dm K C "contract" f_Reader_contract fd_Reader_contract ["self"]) (F_contract : Fun K "contract" "Reader.contract" s_Reader_contract f_Reader_contract fd_Reader_contract)
    {f_Reader_piece : Addr} {fd_Reader_piece : FuncData} (D_Reader_piece : Dm K C "piece" f_Reader_piece fd_Reader_piece ["self", "sort"]) (F_piece : Fun K "piece" "Reader.piece" s_Reader_piece f_Reader_piece fd_Reader_piece)
    {f_Reader_filled : Addr} {fd_Reader_filled : FuncData} (D_Reader_filled : Dm K C "filled" f_Reader_filled fd_Reader_filled ["self", "word", "form"]) (F_filled : Fun K "filled" "Reader.filled" s_Reader_filled f_Reader_filled fd_Reader_filled) : ∀ n, FnMB P w K mg base (CXB P w) (c + 3 * n + 1) f_Reader_filled fd_Reader_filled ["self", "word", "form"] (gFil C c_BadText n)
  | 0 => ok_Reader_filled0 V Z XE O D_Reader_need G_Reader_need D_Reader_piece (fn_noneB fun ds m Q E h => h) F_filled
  | n + 1 => by
    have Gf := fin_Reader_filled V Z Dg XE O D_Reader_sign G_Reader_sign D_Reader_need G_Reader_need D_Reader_run G_Reader_run D_Reader_number G_Reader_number D_Reader_told F_told D_Reader_asked F_asked D_Reader_contract F_contract D_Reader_piece F_piece D_Reader_filled F_filled n
    have Gt := ok_Reader_told V Z XE O D_Reader_sign (G_Reader_sign.mono (show c ≤ c + 3 * n + 1 by omega)) D_Reader_run (G_Reader_run.mono (by omega)) D_Reader_number (G_Reader_number.mono (by omega)) D_Reader_filled Gf F_told
    have Ga := ok_Reader_asked V Dg XE O D_Reader_run (G_Reader_run.mono (show c ≤ c + 3 * n + 1 by omega)) D_Reader_filled Gf F_asked
    have Gc := ok_Reader_contract V Dg XE O D_Reader_run (G_Reader_run.mono (show c ≤ c + 3 * n + 1 by omega)) D_Reader_filled Gf F_contract
    have Gp := ok_Reader_piece V XE O D_Reader_run (G_Reader_run.mono (show c ≤ c + 3 * n + 2 by omega)) D_Reader_number (G_Reader_number.mono (by omega)) D_Reader_told Gt D_Reader_asked Ga D_Reader_contract Gc F_piece
    exact ok_Reader_filled V Z XE O D_Reader_need (G_Reader_need.mono (show c ≤ c + 3 * n + 3 by omega)) D_Reader_piece Gp F_filled
def gRdI (C : Addr) : SpM := fun ds m Q _ => ∃ (p : Addr) (t : Str), ds = [.ref p, .str t] ∧ m p = some (.ins C []) ∧ Q .non (mput m p (.ins C (rdF t 0 0)))
abbrev s_Reader___init__ : Stmt := inClass (topS 32) 0
theorem sc_Reader___init__ : FnScope ["self", "text"] ["self", "text"] (defScope s_Reader___init__) := ⟨rfl, rfl, rfl, by decide +kernel, rfl, by decide +kernel, by decide +kernel⟩
theorem ok_Reader___init__ {k : Nat} {C : Addr} (O : ObK K C ["text", "at", "deep"]) {f_Reader___init__ : Addr} {fd_Reader___init__ : FuncData} (F : Fun K "__init__" "Reader.__init__" s_Reader___init__ f_Reader___init__ fd_Reader___init__) : FnMB P w K mg base CX0 (k + 1) f_Reader___init__ fd_Reader___init__ ["self", "text"] (gRdI C) := by
  refine fn_mB F sc_Reader___init__ (fun ds m Q E h => ?_) (fun cdv A outer s H ds m Q E E' l hc hr h => ?_)
  · obtain ⟨p, t, rfl, _⟩ := h; rfl
  have nd := sc_Reader___init__.nd
  obtain ⟨p, t, rfl, hp, q⟩ := h
  refine ⟨_, (mss_cons (ms_fld (mv 0) (mv 1) rfl)
    (mss_cons (ms_fld (mv 0) mx_int rfl)
    (mss_one (ms_fld (mv 0) mx_int rfl)))), ?_⟩
  wtm_at "go"
  refine i_setF hp O (by simp) (by show 0 < 1000; decide) ?_
  wtm_at "go"
  refine i_setF mput_same O (by simp) (by show 1 < 1000; decide) ?_
  rw [mput_mput]
  wtm_at "go"
  refine i_setF mput_same O (by simp) (by show 2 < 1000; decide) ?_
  rw [mput_mput]
  have e : putFD "deep" (.int 0) (putFD "at" (.int 0) (putFD "text" (.str t) [])) = rdF t 0 0 := by simp [putFD, rdF, ofString_inj]
  wtm_at "go"
  all_goals (rw [e]; exact RtM.mk q)
def readP (t : List Nat) : Option D := if 4000 < t.length then none else match conP (fillP 40) t with
  | none => none
  | some (d, r) => if skip r = [] then (if okCon 12 d = true then some d else none) else none
def wS (s : String) : List Nat := sg (Str.ofString s)
def numS (n : Int) : List Nat := sg (Str.ofString (toString n))
theorem sg_ofString (s : String) : sg (Str.ofString s) = s.toList.map Char.toNat := by
  unfold sg; rw [Str.ofString_eq_toList]
theorem numS_nat (n : Nat) : numS (n : Int) = TL.numL n := TL.tl_num n
theorem numS_neg {n : Nat} (h : 0 < n) : numS (0 - (n : Int)) = 45 :: TL.numL n := by
  obtain ⟨k, rfl⟩ : ∃ k, n = k + 1 := ⟨n - 1, by omega⟩
  have e : (0 - ((k + 1 : Nat) : Int)) = Int.negSucc k := by omega
  unfold numS
  rw [e, show toString (Int.negSucc k) = "-" ++ toString (k + 1) from rfl, sg_ofString, String.toList_append, List.map_append]
  have := TL.tl_num (k + 1)
  rw [show (toString ((k + 1 : Nat) : Int)) = toString (k + 1) from rfl] at this
  have h2 : sg (Str.ofString (toString (k + 1))) = TL.numL (k + 1) := this
  rw [sg_ofString] at h2
  rw [h2]; rfl
theorem dval_snoc {f : List Nat} {c : Nat} : dval (f ++ [c]) = dval f * 10 + (c - 48) := by
  unfold dval PySem.NumText.digitsVal
  rw [List.foldl_append]; rfl
theorem dval_pos : ∀ {f : List Nat} {c : Nat}, c ≠ 48 → 48 ≤ c → 0 < dval (c :: f) := fun {f c} h0 h1 => by
  have go : ∀ (f : List Nat) (a : Nat), 0 < a → 0 < f.foldl (fun acc c => acc * 10 + (c - 48)) a := by
    intro f
    induction f with
    | nil => intro a h; exact h
    | cons x f ih =>
      intro a h
      rw [List.foldl_cons]
      exact ih (a * 10 + (x - 48)) (by omega)
  unfold dval PySem.NumText.digitsVal
  rw [List.foldl_cons]
  exact go f _ (by omega)
theorem numL_dval : ∀ {f : List Nat}, (∀ c ∈ f, 48 ≤ c ∧ c ≤ 57) → f ≠ [] → (f.head? ≠ some 48 ∨ f.length = 1) → TL.numL (dval f) = f := by
  intro f
  generalize hn : f.length = n
  induction n using Nat.strongRecOn generalizing f with
  | _ n ih =>
    intro hd hne h0
    by_cases h1 : f.length = 1
    · obtain ⟨c, rfl⟩ := List.length_eq_one_iff.mp h1
      have hc := hd c (.head _)
      have e : dval [c] = c - 48 := by unfold dval PySem.NumText.digitsVal; simp
      rw [e, TL.numL_lt (by omega), show 48 + (c - 48) = c by omega]
    · obtain ⟨g, c, rfl⟩ : ∃ g c, f = g ++ [c] := ⟨f.dropLast, f.getLast hne, (List.dropLast_concat_getLast hne).symm⟩
      have hg : g ≠ [] := by rintro rfl; exact h1 rfl
      have hc := hd c (by simp)
      have h0g : g.head? ≠ some 48 := by
        rcases h0 with h0 | h0
        · intro e; apply h0; cases g with
          | nil => exact absurd rfl hg
          | cons x g => exact e
        · exact absurd h0 (fun z => h1 (hn.trans z))
      have hdg : ∀ c ∈ g, 48 ≤ c ∧ c ≤ 57 := fun x hx => hd x (List.mem_append_left _ hx)
      have ihg := ih g.length (by rw [← hn, List.length_append]; simp) rfl hdg hg (.inl h0g)
      have hp : 0 < dval g := by
        cases g with
        | nil => exact absurd rfl hg
        | cons x g => exact dval_pos (fun e => h0g (by rw [e]; rfl)) (hdg x (.head _)).1
      rw [dval_snoc, TL.numL_step (by omega), show (dval g * 10 + (c - 48)) / 10 = dval g by omega, ihg, show (dval g * 10 + (c - 48)) % 10 = c - 48 by omega, show 48 + (c - 48) = c by omega]
def Bk (b : List Nat) : Prop := ∀ c ∈ b, c = 32
def Sp : List (List Nat) → List Nat → List Nat → Prop
  | [], r, s => ∃ b, r = b ++ s ∧ Bk b
  | w :: ws, r, s => ∃ b r1, r = b ++ (w ++ r1) ∧ Bk b ∧ Sp ws r1 s
theorem Bk.app {a b : List Nat} (h : Bk a) (k : Bk b) : Bk (a ++ b) := fun c hc => (List.mem_append.mp hc).elim (h c) (k c)
theorem Bk.nil : Bk [] := fun _ h => nomatch h
theorem Sp.bl {b : List Nat} (hb : Bk b) : ∀ {ws : List (List Nat)} {r s : List Nat}, Sp ws r s → Sp ws (b ++ r) s
  | [], _, _, ⟨b', e, h⟩ => ⟨b ++ b', by rw [e, List.append_assoc], hb.app h⟩
  | _ :: _, _, _, ⟨b', r1, e, h, t⟩ => ⟨b ++ b', r1, by rw [e, List.append_assoc], hb.app h, t⟩
theorem Sp.app : ∀ {ws vs : List (List Nat)} {r s t : List Nat}, Sp ws r s → Sp vs s t → Sp (ws ++ vs) r t
  | [], _, _, _, _, ⟨b, e, h⟩, k => by rw [e]; exact k.bl h
  | _ :: _, _, _, _, _, ⟨b, r1, e, h, q⟩, k => ⟨b, r1, e, h, q.app k⟩
theorem Sp.refl {r : List Nat} : Sp [] r r := ⟨[], rfl, Bk.nil⟩
theorem skip_split : ∀ r : List Nat, ∃ b, r = b ++ skip r ∧ Bk b
  | [] => ⟨[], rfl, Bk.nil⟩
  | c :: r => by
    by_cases e : c = 32
    · subst e
      obtain ⟨b, h1, h2⟩ := skip_split r
      refine ⟨32 :: b, ?_, fun x hx => ?_⟩
      · rw [skip_b]; exact congrArg (32 :: ·) h1
      · rcases List.mem_cons.mp hx with rfl | hx
        · rfl
        · exact h2 x hx
    · exact ⟨[], by rw [skip_c e]; rfl, Bk.nil⟩
theorem Sp.skip {r : List Nat} : Sp [] r (skip r) := by
  obtain ⟨b, h1, h2⟩ := skip_split r
  exact ⟨b, h1, h2⟩
theorem Sp.one {w r q : List Nat} (h : Mm.skip r = w ++ q) : Sp [w] r q := by
  obtain ⟨b, h1, h2⟩ := skip_split r
  exact ⟨b, q, by rw [← h]; exact h1, h2, Sp.refl⟩
theorem takesP_true {c : Nat} {r : List Nat} (h : (takesP c r).1 = true) : skip r = [c] ++ (takesP c r).2 := by
  unfold takesP at h ⊢
  cases e : skip r with
  | nil => rw [e] at h; cases h
  | cons x q =>
    rw [e] at h
    dsimp only at h ⊢
    by_cases hx : x = c
    · rw [if_pos hx]; rw [hx]; rfl
    · rw [if_neg hx] at h; cases h
theorem takesP_false {c : Nat} {r : List Nat} (h : (takesP c r).1 = false) : (takesP c r).2 = skip r := by
  unfold takesP at h ⊢
  cases e : skip r with
  | nil => rfl
  | cons x q =>
    rw [e] at h
    dsimp only at h ⊢
    by_cases hx : x = c
    · rw [if_pos hx] at h; cases h
    · rw [if_neg hx]
theorem needP_sp {c : Nat} {r q : List Nat} (h : needP c r = some q) : Sp [[c]] r q := by
  unfold needP at h
  split at h
  · rename_i ht
    cases h
    exact Sp.one (takesP_true ht)
  · cases h
theorem numP_sp {r q : List Nat} {n : Int} (h : numP r = some (n, q)) : Sp [numS n] r q ∧ n.natAbs < 10 ^ 13 := by
  unfold numP at h
  split at h
  · cases h
  rename_i hb
  cases hr : runP figT 13 (takesP 45 r).2 with
  | none => rw [hr] at h; cases h
  | some x =>
    obtain ⟨f, q0⟩ := x
    rw [hr] at h
    dsimp only at h
    split at h
    · cases h
    rename_i hz
    injection h with h
    injection h with h1 h2
    subst h2
    obtain ⟨g1, g2, _, g4, g5⟩ := runP_some hr
    have hd : ∀ c ∈ f, 48 ≤ c ∧ c ≤ 57 := fun c hc => inS_fig.mp (g2 c hc)
    have hne : f ≠ [] := by rintro rfl; simp at g4
    have hlt : dval f < 10 ^ 13 := by
      have go : ∀ (f : List Nat) (a : Nat), (∀ c ∈ f, 48 ≤ c ∧ c ≤ 57) → f.foldl (fun acc c => acc * 10 + (c - 48)) a < (a + 1) * 10 ^ f.length := by
        intro f
        induction f with
        | nil => intro a _; simp
        | cons x f ih =>
          intro a hx
          have h1 := hx x (.head _)
          have h2 := ih (a * 10 + (x - 48)) fun c hc => hx c (.tail _ hc)
          rw [List.foldl_cons, List.length_cons, Nat.pow_succ]
          refine Nat.lt_of_lt_of_le h2 ?_
          rw [Nat.mul_comm (10 ^ f.length) 10, ← Nat.mul_assoc]
          exact Nat.mul_le_mul_right _ (by omega)
      have h3 := go f 0 hd
      have h4 := Nat.pow_le_pow_right (n := 10) (by decide) g5
      unfold dval PySem.NumText.digitsVal
      omega
    cases hm : (takesP 45 r).1 with
    | true =>
      rw [hm] at h1 hz hb
      have e1 := takesP_true hm
      have hsk : skip (takesP 45 r).2 = (takesP 45 r).2 := by
        cases ht : (takesP 45 r).2 with
        | nil => rfl
        | cons c s => exact skip_c fun e => hb ⟨rfl, by rw [ht, e]; rfl⟩
      rw [hsk] at g1
      have hp : 0 < dval f := by
        cases f with
        | nil => exact absurd rfl hne
        | cons c s => exact dval_pos (fun e => hz ⟨by rw [e]; rfl, .inr rfl⟩) (hd c (.head _)).1
      have hn : TL.numL (dval f) = f := numL_dval hd hne (.inl fun e => hz ⟨e, .inr rfl⟩)
      rw [if_pos rfl] at h1
      subst h1
      refine ⟨?_, by omega⟩
      rw [numS_neg hp, hn]
      exact Sp.one (by rw [e1, g1]; rfl)
    | false =>
      rw [hm] at h1 hz
      rw [if_neg Bool.false_ne_true] at h1
      subst h1
      have hn : TL.numL (dval f) = f := numL_dval hd hne (by
        by_cases hl : f.length = 1
        · exact .inr hl
        · exact .inl fun e => hz ⟨e, .inl (by omega)⟩)
      refine ⟨?_, by omega⟩
      rw [numS_nat, hn]
      rw [takesP_false hm, skip_skip] at g1
      exact Sp.one g1
def Wl (x : Str) : Prop := 1 ≤ (sg x).length ∧ (sg x).length ≤ 8 ∧ ∀ c ∈ sg x, 97 ≤ c ∧ c ≤ 122
def Told.tk : Told → List (List Nat)
  | .num n => [numS n]
  | .read x => [sg x]
  | .bin j a b => sg j.w :: [40] :: (a.tk ++ [44] :: (b.tk ++ [[41]]))
def Told.rwd : Told → Prop
  | .num n => n.natAbs < 10 ^ 13
  | .read x => Wl x
  | .bin _ a b => a.rwd ∧ b.rwd
def Asked.tk : Asked → List (List Nat)
  | .lt a b => wS "below" :: [40] :: (a.tk ++ [44] :: (b.tk ++ [[41]]))
  | .no a => wS "not" :: [40] :: (a.tk ++ [[41]])
  | .all a b => wS "all" :: [40] :: (a.tk ++ [44] :: (b.tk ++ [[41]]))
  | .any a b => wS "any" :: [40] :: (a.tk ++ [44] :: (b.tk ++ [[41]]))
def Asked.rwd : Asked → Prop
  | .lt a b => a.rwd ∧ b.rwd
  | .no a => a.rwd
  | .all a b => a.rwd ∧ b.rwd
  | .any a b => a.rwd ∧ b.rwd
def Con.tk : Con → List (List Nat)
  | .no => [wS "none"]
  | .give a b g t => wS "give" :: [40] :: sg a :: [44] :: sg b :: [44] :: sg g :: [44] :: (t.tk ++ [[41]])
  | .both x y => wS "both" :: [40] :: (x.tk ++ [44] :: (y.tk ++ [[41]]))
  | .turned a b x => wS "turned" :: [40] :: sg a :: [44] :: sg b :: [44] :: (x.tk ++ [[41]])
  | .later h x => wS "later" :: [40] :: numS h :: [44] :: (x.tk ++ [[41]])
  | .often n k x => wS "often" :: [40] :: numS n :: [44] :: numS k :: [44] :: (x.tk ++ [[41]])
  | .ite q x y => wS "if" :: [40] :: (q.tk ++ [44] :: (x.tk ++ [44] :: (y.tk ++ [[41]])))
  | .when q x => wS "when" :: [40] :: (q.tk ++ [44] :: (x.tk ++ [[41]]))
  | .till q x => wS "until" :: [40] :: (q.tk ++ [44] :: (x.tk ++ [[41]]))
def Con.rwd : Con → Prop
  | .no => True
  | .give a b g t => Wl a ∧ Wl b ∧ Wl g ∧ t.rwd
  | .both x y => x.rwd ∧ y.rwd
  | .turned a b x => Wl a ∧ Wl b ∧ x.rwd
  | .later h x => h.natAbs < 10 ^ 13 ∧ x.rwd
  | .often n k x => n.natAbs < 10 ^ 13 ∧ k.natAbs < 10 ^ 13 ∧ x.rwd
  | .ite q x y => q.rwd ∧ x.rwd ∧ y.rwd
  | .when q x => q.rwd ∧ x.rwd
  | .till q x => q.rwd ∧ x.rwd
def PcOk (c : Nat) (d : D) (tk : List (List Nat)) : Prop :=
  (c = 119 ∧ ∃ x, d = .str x ∧ Wl x ∧ tk = [sg x]) ∨ (c = 110 ∧ ∃ n : Int, d = .int n ∧ n.natAbs < 10 ^ 13 ∧ tk = [numS n]) ∨ (c = 111 ∧ ∃ t : Told, d = t.d ∧ t.rwd ∧ tk = t.tk) ∨ (c = 97 ∧ ∃ q : Asked, d = q.d ∧ q.rwd ∧ tk = q.tk) ∨ ((c ≠ 119 ∧ c ≠ 110 ∧ c ≠ 111 ∧ c ≠ 97) ∧ ∃ x : Con, d = x.d ∧ x.rwd ∧ tk = x.tk)
inductive PcsOk : List Nat → List D → List (List Nat) → Prop
  | nil : PcsOk [] [] []
  | one {c : Nat} {d : D} {tk : List (List Nat)} : PcOk c d tk → PcsOk [c] [d] tk
  | cons {c e : Nat} {d : D} {tk : List (List Nat)} {cs : List Nat} {ds : List D} {tks : List (List Nat)} : PcOk c d tk → PcsOk (e :: cs) ds tks → PcsOk (c :: e :: cs) (d :: ds) (tk ++ [44] :: tks)
def FilOk (fill : Fil) : Prop := ∀ w form r d r', fill w form r = some (d, r') → ∃ ds tks, d = .tup (.str w :: ds) ∧ PcsOk (sg form) ds tks ∧ Sp ([40] :: (tks ++ [[41]])) r r'
theorem sg_strOf {w : List Nat} : sg (strOf w) = w := by unfold sg strOf; simp
theorem runP_wl {r w q : List Nat} (h : runP smallT 8 r = some (w, q)) : Wl (strOf w) ∧ Sp [w] r q := by
  obtain ⟨g1, g2, _, g4, g5⟩ := runP_some h
  exact ⟨⟨by rw [sg_strOf]; exact g4, by rw [sg_strOf]; exact g5, fun c hc => by rw [sg_strOf] at hc; exact inS_small.mp (g2 c hc)⟩, Sp.one g1⟩
theorem PcsOk.two {ds : List D} {tks : List (List Nat)} {a b : Nat} (h : PcsOk [a, b] ds tks) : ∃ x y tx ty, ds = [x, y] ∧ PcOk a x tx ∧ PcOk b y ty ∧ tks = tx ++ [44] :: ty := by
  cases h with
  | cons h1 h2 => cases h2 with
    | one h2 => exact ⟨_, _, _, _, rfl, h1, h2, rfl⟩
theorem PcsOk.uno {ds : List D} {tks : List (List Nat)} {a : Nat} (h : PcsOk [a] ds tks) : ∃ x, ds = [x] ∧ PcOk a x tks := by
  cases h with
  | one h => exact ⟨_, rfl, h⟩
theorem PcsOk.three {ds : List D} {tks : List (List Nat)} {a b c : Nat} (h : PcsOk [a, b, c] ds tks) : ∃ x y z tx ty tz, ds = [x, y, z] ∧ PcOk a x tx ∧ PcOk b y ty ∧ PcOk c z tz ∧ tks = tx ++ [44] :: (ty ++ [44] :: tz) := by
  cases h with
  | cons h1 h2 =>
    obtain ⟨y, z, ty, tz, rfl, h3, h4, rfl⟩ := h2.two
    exact ⟨_, _, _, _, _, _, rfl, h1, h3, h4, rfl⟩
theorem PcsOk.four {ds : List D} {tks : List (List Nat)} {a b c e : Nat} (h : PcsOk [a, b, c, e] ds tks) : ∃ x y z u tx ty tz tu, ds = [x, y, z, u] ∧ PcOk a x tx ∧ PcOk b y ty ∧ PcOk c z tz ∧ PcOk e u tu ∧ tks = tx ++ [44] :: (ty ++ [44] :: (tz ++ [44] :: tu)) := by
  cases h with
  | cons h1 h2 =>
    obtain ⟨y, z, u, ty, tz, tu, rfl, h3, h4, h5, rfl⟩ := h2.three
    exact ⟨_, _, _, _, _, _, _, _, rfl, h1, h3, h4, h5, rfl⟩
theorem PcOk.fw {d : D} {tk : List (List Nat)} (h : PcOk 119 d tk) : ∃ x, d = .str x ∧ Wl x ∧ tk = [sg x] := by
  rcases h with ⟨_, h⟩ | ⟨h, _⟩ | ⟨h, _⟩ | ⟨h, _⟩ | ⟨h, _⟩
  · exact h
  · cases h
  · cases h
  · cases h
  · exact absurd rfl h.1
theorem PcOk.fn {d : D} {tk : List (List Nat)} (h : PcOk 110 d tk) : ∃ n : Int, d = .int n ∧ n.natAbs < 10 ^ 13 ∧ tk = [numS n] := by
  rcases h with ⟨h, _⟩ | ⟨_, h⟩ | ⟨h, _⟩ | ⟨h, _⟩ | ⟨h, _⟩
  · cases h
  · exact h
  · cases h
  · cases h
  · exact absurd rfl h.2.1
theorem PcOk.fo {d : D} {tk : List (List Nat)} (h : PcOk 111 d tk) : ∃ t : Told, d = t.d ∧ t.rwd ∧ tk = t.tk := by
  rcases h with ⟨h, _⟩ | ⟨h, _⟩ | ⟨_, h⟩ | ⟨h, _⟩ | ⟨h, _⟩
  · cases h
  · cases h
  · exact h
  · cases h
  · exact absurd rfl h.2.2.1
theorem PcOk.fa {d : D} {tk : List (List Nat)} (h : PcOk 97 d tk) : ∃ q : Asked, d = q.d ∧ q.rwd ∧ tk = q.tk := by
  rcases h with ⟨h, _⟩ | ⟨h, _⟩ | ⟨h, _⟩ | ⟨_, h⟩ | ⟨h, _⟩
  · cases h
  · cases h
  · cases h
  · exact h
  · exact absurd rfl h.2.2.2
theorem PcOk.fc {d : D} {tk : List (List Nat)} (h : PcOk 99 d tk) : ∃ x : Con, d = x.d ∧ x.rwd ∧ tk = x.tk := by
  rcases h with ⟨h, _⟩ | ⟨h, _⟩ | ⟨h, _⟩ | ⟨h, _⟩ | ⟨_, h⟩
  · cases h
  · cases h
  · cases h
  · cases h
  · exact h
theorem toldW_ok {fill : Fil} (hf : FilOk fill) {r r' : List Nat} {d : D} (h : toldW fill r = some (d, r')) : ∃ t : Told, d = t.d ∧ t.rwd ∧ Sp t.tk r r' := by
  unfold toldW at h
  cases hr : runP smallT 8 r with
  | none => rw [hr] at h; cases h
  | some x =>
    obtain ⟨w, q⟩ := x
    rw [hr] at h
    dsimp only at h
    obtain ⟨hw, hs⟩ := runP_wl hr
    split at h
    · split at h
      · rename_i hj
        obtain ⟨ds, tks, rfl, hp, h2⟩ := hf _ _ _ _ _ h
        rw [show sg (Str.ofString "oo") = [111, 111] from by decide +kernel] at hp
        obtain ⟨x, y, tx, ty, rfl, p1, p2, rfl⟩ := hp.two
        obtain ⟨a, rfl, ra, rfl⟩ := p1.fo
        obtain ⟨b, rfl, rb, rfl⟩ := p2.fo
        have h3 : Sp ([w] ++ ([] ++ ([40] :: ((a.tk ++ [44] :: b.tk) ++ [[41]])))) r r' := hs.app (Sp.skip.app h2)
        obtain ⟨j, ej⟩ : ∃ j : Jn, strOf w = j.w := by
          unfold joinsL at hj
          simp only [List.mem_cons, List.not_mem_nil, or_false] at hj
          rcases hj with e | e | e | e | e
          · exact ⟨.plus, e⟩
          · exact ⟨.minus, e⟩
          · exact ⟨.times, e⟩
          · exact ⟨.most, e⟩
          · exact ⟨.least, e⟩
        have ew : w = sg j.w := by rw [← ej, sg_strOf]
        refine ⟨.bin j a b, by rw [ej]; rfl, ⟨ra, rb⟩, ?_⟩
        rw [ew] at h3
        simpa [Told.tk] using h3
      · cases h
    · injection h with h
      injection h with h1 h2
      subst h1 h2
      refine ⟨.read (strOf w), rfl, hw, ?_⟩
      show Sp [sg (strOf w)] r (skip q)
      rw [sg_strOf]
      exact hs.app Sp.skip
theorem toldP_ok {fill : Fil} (hf : FilOk fill) {r r' : List Nat} {d : D} (h : toldP fill r = some (d, r')) : ∃ t : Told, d = t.d ∧ t.rwd ∧ Sp t.tk r r' := by
  obtain ⟨b, hb, bk⟩ := skip_split r
  unfold toldP at h
  cases hs : skip r with
  | nil =>
    rw [hs] at h hb
    obtain ⟨t, h1, h2, h3⟩ := toldW_ok hf h
    exact ⟨t, h1, h2, by rw [hb]; exact h3.bl bk⟩
  | cons c q =>
    rw [hs] at h hb
    dsimp only at h
    split at h
    · cases hn : numP (c :: q) with
      | none => rw [hn] at h; cases h
      | some x =>
        obtain ⟨n, s⟩ := x
        rw [hn] at h
        dsimp only at h
        injection h with h
        injection h with h1 h2
        subst h1 h2
        obtain ⟨h3, h4⟩ := numP_sp hn
        exact ⟨.num n, rfl, h4, by rw [hb]; exact h3.bl bk⟩
    · obtain ⟨t, h1, h2, h3⟩ := toldW_ok hf h
      exact ⟨t, h1, h2, by rw [hb]; exact h3.bl bk⟩
theorem look_mem {α : Type} {x : Str} {y : α} : ∀ {l : List (Str × α)}, l.lookup x = some y → (x, y) ∈ l
  | [], h => by cases h
  | (k, v) :: l, h => by
    rw [List.lookup_cons] at h
    cases e : (x == k) with
    | true =>
      rw [e] at h
      cases h
      rw [beq_iff_eq.mp e]; exact .head _
    | false => rw [e] at h; exact .tail _ (look_mem h)
theorem askP_ok {fill : Fil} (hf : FilOk fill) {r r' : List Nat} {d : D} (h : askP fill r = some (d, r')) : ∃ q : Asked, d = q.d ∧ q.rwd ∧ Sp q.tk r r' := by
  unfold askP at h
  cases hr : runP smallT 8 r with
  | none => rw [hr] at h; cases h
  | some x =>
    obtain ⟨w, q⟩ := x
    rw [hr] at h
    dsimp only at h
    obtain ⟨hw, hs⟩ := runP_wl hr
    cases hl : asksL.lookup (strOf w) with
    | none => rw [hl] at h; cases h
    | some f =>
      rw [hl] at h
      dsimp only at h
      obtain ⟨ds, tks, rfl, hp, h2⟩ := hf _ _ _ _ _ h
      have hm := look_mem hl
      have h3 : Sp ([w] ++ ([40] :: (tks ++ [[41]]))) r r' := hs.app h2
      have ew : ∀ {s : String}, strOf w = Str.ofString s → w = wS s := fun {s} e => by unfold wS; rw [← e, sg_strOf]
      unfold asksL at hm
      simp only [List.mem_cons, List.not_mem_nil, or_false, Prod.mk.injEq] at hm
      rcases hm with ⟨e1, e2⟩ | ⟨e1, e2⟩ | ⟨e1, e2⟩ | ⟨e1, e2⟩ <;> rw [ew e1] at h3 <;> subst e2
      · rw [show sg (Str.ofString "oo") = [111, 111] from by decide +kernel] at hp
        obtain ⟨x, y, tx, ty, rfl, p1, p2, rfl⟩ := hp.two
        obtain ⟨a, rfl, ra, rfl⟩ := p1.fo
        obtain ⟨b, rfl, rb, rfl⟩ := p2.fo
        exact ⟨.lt a b, by rw [e1]; rfl, ⟨ra, rb⟩, by simpa [Asked.tk] using h3⟩
      · rw [show sg (Str.ofString "a") = [97] from by decide +kernel] at hp
        obtain ⟨x, rfl, p1⟩ := hp.uno
        obtain ⟨a, rfl, ra, rfl⟩ := p1.fa
        exact ⟨.no a, by rw [e1]; rfl, ra, by simpa [Asked.tk] using h3⟩
      · rw [show sg (Str.ofString "aa") = [97, 97] from by decide +kernel] at hp
        obtain ⟨x, y, tx, ty, rfl, p1, p2, rfl⟩ := hp.two
        obtain ⟨a, rfl, ra, rfl⟩ := p1.fa
        obtain ⟨b, rfl, rb, rfl⟩ := p2.fa
        exact ⟨.all a b, by rw [e1]; rfl, ⟨ra, rb⟩, by simpa [Asked.tk] using h3⟩
      · rw [show sg (Str.ofString "aa") = [97, 97] from by decide +kernel] at hp
        obtain ⟨x, y, tx, ty, rfl, p1, p2, rfl⟩ := hp.two
        obtain ⟨a, rfl, ra, rfl⟩ := p1.fa
        obtain ⟨b, rfl, rb, rfl⟩ := p2.fa
        exact ⟨.any a b, by rw [e1]; rfl, ⟨ra, rb⟩, by simpa [Asked.tk] using h3⟩
theorem conP_ok {fill : Fil} (hf : FilOk fill) {r r' : List Nat} {d : D} (h : conP fill r = some (d, r')) : ∃ c : Con, d = c.d ∧ c.rwd ∧ Sp c.tk r r' := by
  unfold conP at h
  cases hr : runP smallT 8 r with
  | none => rw [hr] at h; cases h
  | some x =>
    obtain ⟨w, q⟩ := x
    rw [hr] at h
    dsimp only at h
    obtain ⟨hw, hs⟩ := runP_wl hr
    have ew : ∀ {s : String}, strOf w = Str.ofString s → w = wS s := fun {s} e => by unfold wS; rw [← e, sg_strOf]
    cases hl : formsL.lookup (strOf w) with
    | none => rw [hl] at h; cases h
    | some f =>
      rw [hl] at h
      dsimp only at h
      split at h
      · rename_i e1
        injection h with h
        injection h with h1 h2
        subst h1 h2
        rw [ew e1] at hs
        exact ⟨.no, by rw [e1]; rfl, trivial, hs⟩
      rename_i hne
      obtain ⟨ds, tks, rfl, hp, h2⟩ := hf _ _ _ _ _ h
      have hm := look_mem hl
      have h3 : Sp ([w] ++ ([40] :: (tks ++ [[41]]))) r r' := hs.app h2
      unfold formsL at hm
      simp only [List.mem_cons, List.not_mem_nil, or_false, Prod.mk.injEq] at hm
      rcases hm with ⟨e1, e2⟩ | ⟨e1, e2⟩ | ⟨e1, e2⟩ | ⟨e1, e2⟩ | ⟨e1, e2⟩ | ⟨e1, e2⟩ | ⟨e1, e2⟩ | ⟨e1, e2⟩ | ⟨e1, e2⟩ <;> first | exact absurd e1 hne | (rw [ew e1] at h3; subst e2)
      · rw [show sg (Str.ofString "wwwo") = [119, 119, 119, 111] from by decide +kernel] at hp
        obtain ⟨x, y, z, u, tx, ty, tz, tu, rfl, p1, p2, p3, p4, rfl⟩ := hp.four
        obtain ⟨a, rfl, ra, rfl⟩ := p1.fw
        obtain ⟨b, rfl, rb, rfl⟩ := p2.fw
        obtain ⟨g, rfl, rg, rfl⟩ := p3.fw
        obtain ⟨t, rfl, rt, rfl⟩ := p4.fo
        exact ⟨.give a b g t, by rw [e1]; rfl, ⟨ra, rb, rg, rt⟩, by simpa [Con.tk] using h3⟩
      · rw [show sg (Str.ofString "cc") = [99, 99] from by decide +kernel] at hp
        obtain ⟨x, y, tx, ty, rfl, p1, p2, rfl⟩ := hp.two
        obtain ⟨a, rfl, ra, rfl⟩ := p1.fc
        obtain ⟨b, rfl, rb, rfl⟩ := p2.fc
        exact ⟨.both a b, by rw [e1]; rfl, ⟨ra, rb⟩, by simpa [Con.tk] using h3⟩
      · rw [show sg (Str.ofString "wwc") = [119, 119, 99] from by decide +kernel] at hp
        obtain ⟨x, y, z, tx, ty, tz, rfl, p1, p2, p3, rfl⟩ := hp.three
        obtain ⟨a, rfl, ra, rfl⟩ := p1.fw
        obtain ⟨b, rfl, rb, rfl⟩ := p2.fw
        obtain ⟨c, rfl, rc, rfl⟩ := p3.fc
        exact ⟨.turned a b c, by rw [e1]; rfl, ⟨ra, rb, rc⟩, by simpa [Con.tk] using h3⟩
      · rw [show sg (Str.ofString "nc") = [110, 99] from by decide +kernel] at hp
        obtain ⟨x, y, tx, ty, rfl, p1, p2, rfl⟩ := hp.two
        obtain ⟨a, rfl, ra, rfl⟩ := p1.fn
        obtain ⟨b, rfl, rb, rfl⟩ := p2.fc
        exact ⟨.later a b, by rw [e1]; rfl, ⟨ra, rb⟩, by simpa [Con.tk] using h3⟩
      · rw [show sg (Str.ofString "nnc") = [110, 110, 99] from by decide +kernel] at hp
        obtain ⟨x, y, z, tx, ty, tz, rfl, p1, p2, p3, rfl⟩ := hp.three
        obtain ⟨a, rfl, ra, rfl⟩ := p1.fn
        obtain ⟨b, rfl, rb, rfl⟩ := p2.fn
        obtain ⟨c, rfl, rc, rfl⟩ := p3.fc
        exact ⟨.often a b c, by rw [e1]; rfl, ⟨ra, rb, rc⟩, by simpa [Con.tk] using h3⟩
      · rw [show sg (Str.ofString "acc") = [97, 99, 99] from by decide +kernel] at hp
        obtain ⟨x, y, z, tx, ty, tz, rfl, p1, p2, p3, rfl⟩ := hp.three
        obtain ⟨a, rfl, ra, rfl⟩ := p1.fa
        obtain ⟨b, rfl, rb, rfl⟩ := p2.fc
        obtain ⟨c, rfl, rc, rfl⟩ := p3.fc
        exact ⟨.ite a b c, by rw [e1]; rfl, ⟨ra, rb, rc⟩, by simpa [Con.tk] using h3⟩
      · rw [show sg (Str.ofString "ac") = [97, 99] from by decide +kernel] at hp
        obtain ⟨x, y, tx, ty, rfl, p1, p2, rfl⟩ := hp.two
        obtain ⟨a, rfl, ra, rfl⟩ := p1.fa
        obtain ⟨b, rfl, rb, rfl⟩ := p2.fc
        exact ⟨.when a b, by rw [e1]; rfl, ⟨ra, rb⟩, by simpa [Con.tk] using h3⟩
      · rw [show sg (Str.ofString "ac") = [97, 99] from by decide +kernel] at hp
        obtain ⟨x, y, tx, ty, rfl, p1, p2, rfl⟩ := hp.two
        obtain ⟨a, rfl, ra, rfl⟩ := p1.fa
        obtain ⟨b, rfl, rb, rfl⟩ := p2.fc
        exact ⟨.till a b, by rw [e1]; rfl, ⟨ra, rb⟩, by simpa [Con.tk] using h3⟩
theorem pieceP_ok {fill : Fil} (hf : FilOk fill) {c : Nat} {r r' : List Nat} {d : D} (h : pieceP fill c r = some (d, r')) : ∃ tk, PcOk c d tk ∧ Sp tk r r' := by
  unfold pieceP at h
  split at h
  · rename_i e
    cases hr : runP smallT 8 r with
    | none => rw [hr] at h; cases h
    | some x =>
      obtain ⟨w, q⟩ := x
      rw [hr] at h
      injection h with h
      injection h with h1 h2
      subst h1 h2
      obtain ⟨hw, hs⟩ := runP_wl hr
      exact ⟨[w], .inl ⟨e, strOf w, rfl, hw, by rw [sg_strOf]⟩, hs⟩
  rename_i e1
  split at h
  · rename_i e
    cases hr : numP r with
    | none => rw [hr] at h; cases h
    | some x =>
      obtain ⟨n, q⟩ := x
      rw [hr] at h
      injection h with h
      injection h with h1 h2
      subst h1 h2
      obtain ⟨hs, hn⟩ := numP_sp hr
      exact ⟨_, .inr (.inl ⟨e, n, rfl, hn, rfl⟩), hs⟩
  rename_i e2
  split at h
  · rename_i e
    obtain ⟨t, h1, h2, h3⟩ := toldP_ok hf h
    exact ⟨_, .inr (.inr (.inl ⟨e, t, h1, h2, rfl⟩)), h3⟩
  rename_i e3
  split at h
  · rename_i e
    obtain ⟨t, h1, h2, h3⟩ := askP_ok hf h
    exact ⟨_, .inr (.inr (.inr (.inl ⟨e, t, h1, h2, rfl⟩))), h3⟩
  rename_i e4
  obtain ⟨t, h1, h2, h3⟩ := conP_ok hf h
  exact ⟨_, .inr (.inr (.inr (.inr ⟨⟨e1, e2, e3, e4⟩, t, h1, h2, rfl⟩))), h3⟩
theorem piecesP_ok {fill : Fil} (hf : FilOk fill) : ∀ {form : List Nat} {first : Bool} {r r' : List Nat} {ds : List D}, piecesP (pieceP fill) first form r = some (ds, r') → ∃ tks, PcsOk form ds tks ∧ (if first = true ∨ form = [] then Sp tks r r' else Sp ([44] :: tks) r r')
  | [], first, r, r', ds, h => by
    injection h with h
    injection h with h1 h2
    subst h1 h2
    exact ⟨[], .nil, by rw [if_pos (.inr rfl)]; exact Sp.refl⟩
  | c :: form, first, r, r', ds, h => by
    rw [piecesP_cons] at h
    have step : ∀ {r1 : List Nat}, (match pieceP fill c r1 with | none => none | some (d, r2) => match piecesP (pieceP fill) false form r2 with | none => none | some (ds, r3) => some (d :: ds, r3)) = some (ds, r') → ∃ tks, PcsOk (c :: form) ds tks ∧ Sp tks r1 r' := fun {r1} h => by
      cases hp : pieceP fill c r1 with
      | none => rw [hp] at h; cases h
      | some x =>
        obtain ⟨d, r2⟩ := x
        rw [hp] at h
        dsimp only at h
        obtain ⟨tk, h1, h2⟩ := pieceP_ok hf hp
        cases hq : piecesP (pieceP fill) false form r2 with
        | none => rw [hq] at h; cases h
        | some y =>
          obtain ⟨es, r3⟩ := y
          rw [hq] at h
          dsimp only at h
          injection h with h
          injection h with h3 h4
          subst h3 h4
          obtain ⟨tks, h5, h6⟩ := piecesP_ok hf hq
          cases form with
          | nil =>
            cases h5
            rw [if_pos (.inr rfl)] at h6
            have := h2.app h6
            rw [List.append_nil] at this
            exact ⟨tk, .one h1, this⟩
          | cons e form =>
            rw [if_neg (by simp)] at h6
            exact ⟨_, .cons h1 h5, h2.app h6⟩
    cases first with
    | true =>
      rw [if_pos rfl] at h
      obtain ⟨tks, h1, h2⟩ := step h
      exact ⟨tks, h1, by rw [if_pos (.inl rfl)]; exact h2⟩
    | false =>
      rw [if_neg Bool.false_ne_true] at h
      cases hn : needP 44 r with
      | none => rw [hn] at h; cases h
      | some r1 =>
        rw [hn] at h
        obtain ⟨tks, h1, h2⟩ := step h
        exact ⟨tks, h1, by rw [if_neg (by simp)]; exact (needP_sp hn).app h2⟩
theorem fillP_ok : ∀ n, FilOk (fillP n)
  | 0 => fun w form r d r' h => by cases h
  | n + 1 => fun w form r d r' h => by
    unfold fillP at h
    cases h1 : needP 40 r with
    | none => rw [h1] at h; cases h
    | some r1 =>
      rw [h1] at h
      dsimp only at h
      cases h2 : piecesP (pieceP (fillP n)) true (sg form) r1 with
      | none => rw [h2] at h; cases h
      | some x =>
        obtain ⟨ds, r2⟩ := x
        rw [h2] at h
        dsimp only at h
        cases h3 : needP 41 r2 with
        | none => rw [h3] at h; cases h
        | some r3 =>
          rw [h3] at h
          dsimp only at h
          injection h with h
          injection h with h4 h5
          subst h4 h5
          obtain ⟨tks, h6, h7⟩ := piecesP_ok (fillP_ok n) h2
          rw [if_pos (.inl rfl)] at h7
          exact ⟨ds, tks, rfl, h6, (needP_sp h1).app (h7.app (needP_sp h3))⟩
def Al (c : Nat) : Prop := (97 ≤ c ∧ c ≤ 122) ∨ (48 ≤ c ∧ c ≤ 57)
def Ed (s : List Nat) : Prop := ∀ x, s.head? = some x → ¬ Al x
def Nx' (s : List Nat) : Prop := ∃ x, (skip s).head? = some x ∧ (x = 44 ∨ x = 41)
theorem skip_bk {b : List Nat} (hb : Bk b) {r : List Nat} : skip (b ++ r) = skip r := by
  induction b with
  | nil => rfl
  | cons c b ih =>
    rw [hb c (.head _), List.cons_append, skip_b]
    exact ih fun x hx => hb x (.tail _ hx)
theorem Nx'.ed {s : List Nat} (h : Nx' s) : Ed s := by
  obtain ⟨x, h1, h2⟩ := h
  intro y hy
  cases s with
  | nil => cases hy
  | cons c q =>
    obtain rfl : c = y := Option.some.inj hy
    by_cases e : c = 32
    · unfold Al; omega
    · rw [skip_c e] at h1
      obtain rfl : c = x := Option.some.inj h1
      unfold Al; omega
theorem tw_app {S : Nat → Bool} {w r : List Nat} (hw : ∀ c ∈ w, S c = true) (he : ∀ x, r.head? = some x → S x = false) : (w ++ r).takeWhile S = w ∧ (w ++ r).dropWhile S = r := by
  induction w with
  | nil =>
    cases r with
    | nil => exact ⟨rfl, rfl⟩
    | cons c q =>
      have := he c rfl
      exact ⟨by rw [List.nil_append, List.takeWhile_cons_of_neg (by rw [this]; exact Bool.false_ne_true)], by rw [List.nil_append, List.dropWhile_cons_of_neg (by rw [this]; exact Bool.false_ne_true)]⟩
  | cons c w ih =>
    obtain ⟨h1, h2⟩ := ih fun x hx => hw x (.tail _ hx)
    rw [List.cons_append, List.takeWhile_cons_of_pos (hw c (.head _)), List.dropWhile_cons_of_pos (hw c (.head _)), h1, h2]
    exact ⟨rfl, rfl⟩
theorem runP_cp {z : Str} {n : Nat} {b w r : List Nat} (hb : Bk b) (h32 : inS z 32 = false) (hw : ∀ c ∈ w, inS z c = true) (h1 : 1 ≤ w.length) (h2 : w.length ≤ n) (he : ∀ x, r.head? = some x → inS z x = false) : runP z n (b ++ (w ++ r)) = some (w, r) := by
  have hs : skip (b ++ (w ++ r)) = w ++ r := by
    rw [skip_bk hb]
    cases w with
    | nil => simp at h1
    | cons c w => exact skip_c fun e => by have := hw c (.head _); rw [e, h32] at this; cases this
  obtain ⟨t1, t2⟩ := tw_app hw he
  unfold runP
  rw [hs, t1, t2, if_pos ⟨h1, h2⟩]
theorem needP_cp {c : Nat} {b r : List Nat} (hb : Bk b) (hc : c ≠ 32) : needP c (b ++ (c :: r)) = some r := by
  have hs : skip (b ++ (c :: r)) = c :: r := by rw [skip_bk hb, skip_c hc]
  have ht : takesP c (b ++ (c :: r)) = (true, r) := by unfold takesP; rw [hs]; exact if_pos rfl
  unfold needP
  rw [ht]; rfl
theorem Sp.split : ∀ {ws vs : List (List Nat)} {r t : List Nat}, Sp (ws ++ vs) r t → ∃ s, Sp ws r s ∧ Sp vs s t
  | [], _, r, _, h => ⟨r, Sp.refl, h⟩
  | _ :: _, _, _, _, ⟨b, r1, e, hb, h⟩ => by
    obtain ⟨s, h1, h2⟩ := h.split
    exact ⟨s, ⟨b, r1, e, hb, h1⟩, h2⟩
def Hd (w : List Nat) : Prop := ∃ c q, w = c :: q ∧ c ≠ 32
theorem Sp.sk {w : List Nat} {ws : List (List Nat)} {r r' s : List Nat} (hw : Hd w) (h : Sp (w :: ws) r s) (e : Mm.skip r' = Mm.skip r) : Sp (w :: ws) r' s := by
  obtain ⟨c, q, rfl, hc⟩ := hw
  obtain ⟨b, r1, rfl, hb, h1⟩ := h
  rw [skip_bk hb, List.cons_append, skip_c hc] at e
  obtain ⟨b', h2, h3⟩ := skip_split r'
  exact ⟨b', r1, by rw [List.cons_append, ← e]; exact h2, h3, h1⟩
theorem Sp.nx {c : Nat} (hc : c = 44 ∨ c = 41) {ws : List (List Nat)} {r s : List Nat} (h : Sp ([c] :: ws) r s) : Nx' r := by
  obtain ⟨b, r1, rfl, hb, _⟩ := h
  refine ⟨c, ?_, hc⟩
  rw [skip_bk hb, List.cons_append, skip_c (by omega)]; rfl
theorem Sp.end_ {r s : List Nat} (h : Sp [] r s) : Mm.skip r = Mm.skip s := by
  obtain ⟨b, rfl, hb⟩ := h
  exact skip_bk hb
def PcC (n : Nat) (c : Nat) (d : D) (tk : List (List Nat)) : Prop := (∃ w ws, tk = w :: ws ∧ Hd w) ∧ ∀ r s, Sp tk r s → Nx' s → ∃ r', pieceP (fillP n) c r = some (d, r') ∧ skip r' = skip s
inductive PcsC (n : Nat) : List Nat → List D → List (List Nat) → Prop
  | one {c : Nat} {d : D} {tk : List (List Nat)} : PcC n c d tk → PcsC n [c] [d] tk
  | cons {c : Nat} {d : D} {tk : List (List Nat)} {cs : List Nat} {ds : List D} {tks : List (List Nat)} : PcC n c d tk → PcsC n cs ds tks → PcsC n (c :: cs) (d :: ds) (tk ++ [44] :: tks)
theorem PcsC.hd {n : Nat} {cs : List Nat} {ds : List D} {tks : List (List Nat)} (h : PcsC n cs ds tks) : ∃ w ws, tks = w :: ws ∧ Hd w := by
  cases h with
  | one h => exact h.1
  | cons h _ =>
    obtain ⟨w, ws, rfl, hw⟩ := h.1
    exact ⟨w, _, rfl, hw⟩
theorem pieces_cp {n : Nat} {cs : List Nat} {ds : List D} {tks : List (List Nat)} (h : PcsC n cs ds tks) : ∀ {r s : List Nat}, Sp tks r s → Nx' s → ∃ r', piecesP (pieceP (fillP n)) true cs r = some (ds, r') ∧ skip r' = skip s := by
  induction h with
  | @one c d tk h =>
    intro r s hs hn
    obtain ⟨r', h1, h2⟩ := h.2 r s hs hn
    refine ⟨r', ?_, h2⟩
    rw [piecesP_cons, if_pos rfl]
    dsimp only
    rw [h1]; rfl
  | @cons c d tk cs ds tks h hcs ih =>
    intro r s hs hn
    obtain ⟨s1, h1, h2⟩ := hs.split
    obtain ⟨r1, h3, h4⟩ := h.2 r s1 h1 (h2.nx (.inl rfl))
    have h5 : Sp ([44] :: tks) r1 s := h2.sk ⟨44, [], rfl, by decide⟩ h4
    obtain ⟨b, q, rfl, hb, h6⟩ := h5
    obtain ⟨r2, h7, h8⟩ := ih h6 hn
    refine ⟨r2, ?_, h8⟩
    rw [piecesP_cons, if_pos rfl]
    dsimp only
    rw [h3]
    dsimp only
    have e : piecesP (pieceP (fillP n)) false cs (b ++ ([44] ++ q)) = some (ds, r2) := by
      cases cs with
      | nil => cases hcs
      | cons e cs =>
        rw [piecesP_cons, if_pos rfl] at h7
        rw [piecesP_cons, if_neg Bool.false_ne_true, List.singleton_append, needP_cp hb (by decide)]
        exact h7
    rw [e]
theorem fill_cp {n : Nat} {w form : Str} {ds : List D} {tks : List (List Nat)} (h : PcsC n (sg form) ds tks) {r s : List Nat} (hs : Sp ([40] :: (tks ++ [[41]])) r s) : ∃ r', fillP (n + 1) w form r = some (.tup (.str w :: ds), r') ∧ skip r' = skip s := by
  obtain ⟨b, r1, rfl, hb, h1⟩ := hs
  obtain ⟨s1, h2, h3⟩ := h1.split
  obtain ⟨r2, h4, h5⟩ := pieces_cp h h2 (h3.nx (.inr rfl))
  have h6 : Sp [[41]] r2 s := h3.sk ⟨41, [], rfl, by decide⟩ h5
  obtain ⟨b2, r3, rfl, hb2, h7⟩ := h6
  refine ⟨r3, ?_, h7.end_⟩
  unfold fillP
  rw [List.singleton_append, needP_cp hb (by decide)]
  dsimp only
  rw [h4]
  dsimp only
  rw [List.singleton_append, needP_cp hb2 (by decide)]
theorem inS_fig_f {c : Nat} (h : ¬ (48 ≤ c ∧ c ≤ 57)) : inS figT c = false := by
  cases e : inS figT c with
  | false => rfl
  | true => exact (h (inS_fig.mp e)).elim
theorem inS_small_f {c : Nat} (h : ¬ (97 ≤ c ∧ c ≤ 122)) : inS smallT c = false := by
  cases e : inS smallT c with
  | false => rfl
  | true => exact (h (inS_small.mp e)).elim
theorem numL_head {k : Nat} : (TL.numL k).head? = some 48 → k = 0 := by
  induction k using Nat.strongRecOn with
  | _ k ih =>
    intro h
    by_cases hk : k < 10
    · rw [TL.numL_lt hk] at h
      cases h' : k with
      | zero => rfl
      | succ j => rw [h'] at h; simp at h
    · rw [TL.numL_step (by omega)] at h
      have hne := TL.numL_ne (k / 10)
      have := ih (k / 10) (by omega) (by
        cases hq : TL.numL (k / 10) with
        | nil => exact absurd hq hne
        | cons x q => rw [hq] at h; exact h)
      omega
theorem num_cp {n : Int} (hn : n.natAbs < 10 ^ 13) {b r : List Nat} (hb : Bk b) (he : Ed r) : numP (b ++ (numS n ++ r)) = some (n, r) := by
  have dig : ∀ k : Nat, ∀ c ∈ TL.numL k, 48 ≤ c ∧ c ≤ 57 := fun k c hc => TL.numL_digits k c hc
  have hr : ∀ x, r.head? = some x → inS figT x = false := fun x hx => inS_fig_f fun h => he x hx (.inr h)
  have len : ∀ k : Nat, 1 ≤ (TL.numL k).length := fun k => List.length_pos_iff.mpr (TL.numL_ne k)
  by_cases h0 : 0 ≤ n
  · obtain ⟨k, rfl⟩ : ∃ k : Nat, n = k := ⟨n.toNat, by omega⟩
    rw [numS_nat]
    obtain ⟨c, q, hq⟩ : ∃ c q, TL.numL k = c :: q := by
      cases h : TL.numL k with
      | nil => exact absurd h (TL.numL_ne k)
      | cons c q => exact ⟨c, q, rfl⟩
    have hc := dig k c (by rw [hq]; exact .head _)
    have hs : skip (b ++ (TL.numL k ++ r)) = TL.numL k ++ r := by
      rw [skip_bk hb, hq, List.cons_append, skip_c (by omega)]
    have ht : takesP 45 (b ++ (TL.numL k ++ r)) = (false, TL.numL k ++ r) := by
      unfold takesP
      rw [hs, hq]
      exact if_neg (by omega)
    unfold numP
    rw [ht]
    dsimp only
    rw [if_neg (fun h => Bool.false_ne_true h.1)]
    have := runP_cp (z := figT) (n := 13) (b := []) (w := TL.numL k) (r := r) Bk.nil (inS_fig_f (by decide)) (fun c hc => inS_fig.mpr (dig k c hc)) (len k) (TL.numL_len (by decide) (by omega)) hr
    rw [List.nil_append] at this
    rw [this]
    dsimp only
    rw [if_neg, if_neg Bool.false_ne_true]
    · rw [show dval (TL.numL k) = k from TL.numL_val k]
    · rintro ⟨h1, h2 | h2⟩
      · have := numL_head h1
        subst this
        rw [TL.numL_lt (by decide)] at h2
        simp at h2
      · cases h2
  · obtain ⟨k, rfl, hk⟩ : ∃ k : Nat, n = 0 - (k : Int) ∧ 0 < k := ⟨n.natAbs, by omega, by omega⟩
    rw [numS_neg hk]
    obtain ⟨c, q, hq⟩ : ∃ c q, TL.numL k = c :: q := by
      cases h : TL.numL k with
      | nil => exact absurd h (TL.numL_ne k)
      | cons c q => exact ⟨c, q, rfl⟩
    have hc := dig k c (by rw [hq]; exact .head _)
    have hs : skip (b ++ (45 :: TL.numL k ++ r)) = 45 :: (TL.numL k ++ r) := by
      rw [skip_bk hb, List.cons_append, skip_c (by decide)]
    have ht : takesP 45 (b ++ (45 :: TL.numL k ++ r)) = (true, TL.numL k ++ r) := by
      unfold takesP
      rw [hs]
      exact if_pos rfl
    unfold numP
    rw [ht]
    dsimp only
    rw [if_neg (fun h => by have h2 := h.2; rw [hq] at h2; cases h2; omega)]
    have := runP_cp (z := figT) (n := 13) (b := []) (w := TL.numL k) (r := r) Bk.nil (inS_fig_f (by decide)) (fun c hc => inS_fig.mpr (dig k c hc)) (len k) (TL.numL_len (by decide) (by omega)) hr
    rw [List.nil_append] at this
    rw [this]
    dsimp only
    rw [if_neg, if_pos rfl]
    · rw [show dval (TL.numL k) = k from TL.numL_val k]
    · rintro ⟨h1, _⟩
      have := numL_head h1
      omega
theorem wl_hd {x : Str} (h : Wl x) : Hd (sg x) := by
  obtain ⟨h1, h2, h3⟩ := h
  cases e : sg x with
  | nil => rw [e] at h1; simp at h1
  | cons c q => exact ⟨c, q, rfl, by have := h3 c (by rw [e]; exact .head _); omega⟩
theorem strOf_sg {x : Str} : strOf (sg x) = x := by unfold strOf sg; simp
theorem wl_run {x : Str} (h : Wl x) {b r : List Nat} (hb : Bk b) (he : Ed r) : runP smallT 8 (b ++ (sg x ++ r)) = some (sg x, r) :=
  runP_cp hb (inS_small_f (by decide)) (fun c hc => inS_small.mpr (h.2.2 c hc)) h.1 h.2.1 fun y hy => inS_small_f fun z => he y hy (.inl z)
theorem ed_par {b r : List Nat} (hb : Bk b) : Ed (b ++ ([40] ++ r)) := by
  intro y hy
  cases b with
  | nil =>
    obtain rfl : 40 = y := Option.some.inj hy
    unfold Al; omega
  | cons c b =>
    obtain rfl : c = y := Option.some.inj hy
    have := hb c (.head _); unfold Al; omega
theorem word_wl (s : String) (h : (decide (1 ≤ (sg (Str.ofString s)).length) && decide ((sg (Str.ofString s)).length ≤ 8) && (sg (Str.ofString s)).all fun c => decide (97 ≤ c) && decide (c ≤ 122)) = true) : Wl (Str.ofString s) := by
  rw [Bool.and_eq_true, Bool.and_eq_true, decide_eq_true_iff, decide_eq_true_iff, List.all_eq_true] at h
  refine ⟨h.1.1, h.1.2, fun c hc => ?_⟩
  have := h.2 c hc
  rw [Bool.and_eq_true, decide_eq_true_iff, decide_eq_true_iff] at this
  exact this
theorem jn_wl (j : Jn) : Wl j.w := by
  cases j
  · exact word_wl "plus" (by decide +kernel)
  · exact word_wl "minus" (by decide +kernel)
  · exact word_wl "times" (by decide +kernel)
  · exact word_wl "most" (by decide +kernel)
  · exact word_wl "least" (by decide +kernel)
theorem jn_in (j : Jn) : j.w ∈ joinsL := by cases j <;> (unfold joinsL; simp [Jn.w])
theorem numS_hd (n : Int) : ∃ c q, numS n = c :: q ∧ ((48 ≤ c ∧ c ≤ 57) ∨ c = 45) := by
  by_cases h0 : 0 ≤ n
  · obtain ⟨k, rfl⟩ : ∃ k : Nat, n = k := ⟨n.toNat, by omega⟩
    rw [numS_nat]
    cases h : TL.numL k with
    | nil => exact absurd h (TL.numL_ne k)
    | cons c q => exact ⟨c, q, rfl, .inl (TL.numL_digits k c (by rw [h]; exact .head _))⟩
  · obtain ⟨k, rfl, hk⟩ : ∃ k : Nat, n = 0 - (k : Int) ∧ 0 < k := ⟨n.natAbs, by omega, by omega⟩
    exact ⟨45, _, numS_neg hk, .inr rfl⟩
theorem numS_h (n : Int) : Hd (numS n) := by
  obtain ⟨c, q, h1, h2⟩ := numS_hd n
  exact ⟨c, q, h1, by omega⟩
theorem Told.tk_hd : ∀ {t : Told}, t.rwd → ∃ w ws, t.tk = w :: ws ∧ Hd w
  | .num n, _ => ⟨_, _, rfl, numS_h n⟩
  | .read x, h => ⟨_, _, rfl, wl_hd h⟩
  | .bin j a b, _ => ⟨_, _, rfl, wl_hd (jn_wl j)⟩
def Asked.bd : Asked → Nat
  | .lt a b => max a.dp b.dp + 1
  | .no a => a.bd + 1
  | .all a b => max a.bd b.bd + 1
  | .any a b => max a.bd b.bd + 1
def Con.bd : Con → Nat
  | .no => 0
  | .give _ _ _ t => t.dp + 1
  | .both x y => max x.bd y.bd + 1
  | .turned _ _ x => x.bd + 1
  | .later _ x => x.bd + 1
  | .often _ _ x => x.bd + 1
  | .ite q x y => max q.bd (max x.bd y.bd) + 1
  | .when q x => max q.bd x.bd + 1
  | .till q x => max q.bd x.bd + 1
theorem told_cp : ∀ (t : Told) (n : Nat) (r s : List Nat), t.rwd → t.dp ≤ n → Sp t.tk r s → Nx' s → ∃ r', toldP (fillP n) r = some (t.d, r') ∧ skip r' = skip s
  | .num i, n, r, s, h, _, hs, hn => by
    obtain ⟨b, r1, rfl, hb, h1⟩ := hs
    obtain ⟨c, q, hq, hc⟩ := numS_hd i
    have he : Ed r1 := by
      obtain ⟨b1, rfl, hb1⟩ := h1
      cases b1 with
      | nil => exact hn.ed
      | cons x b1 =>
        intro y hy
        obtain rfl : x = y := Option.some.inj hy
        have := hb1 x (.head _); unfold Al; omega
    have hs : skip (b ++ (numS i ++ r1)) = c :: (q ++ r1) := by rw [skip_bk hb, hq, List.cons_append, skip_c (by omega)]
    have hnum := num_cp (n := i) h (b := []) (r := r1) Bk.nil he
    rw [List.nil_append, hq, List.cons_append] at hnum
    refine ⟨r1, ?_, h1.end_⟩
    unfold toldP
    rw [hs]
    dsimp only
    rw [if_pos (figM_c.mpr hc), hnum]
    rfl
  | .read x, n, r, s, h, _, hs, hn => by
    obtain ⟨b, r1, rfl, hb, h1⟩ := hs
    have h : Wl x := h
    obtain ⟨c, q, hq, hc⟩ := wl_hd h
    have hc1 := h.2.2 c (by rw [hq]; exact .head _)
    have he : Ed r1 := by
      obtain ⟨b1, rfl, hb1⟩ := h1
      cases b1 with
      | nil => exact hn.ed
      | cons x b1 =>
        intro y hy
        obtain rfl : x = y := Option.some.inj hy
        have := hb1 x (.head _); unfold Al; omega
    have hs : skip (b ++ (sg x ++ r1)) = c :: (q ++ r1) := by rw [skip_bk hb, hq, List.cons_append, skip_c hc]
    have hrun := wl_run h (b := []) (r := r1) Bk.nil he
    rw [List.nil_append, hq, List.cons_append] at hrun
    refine ⟨skip r1, ?_, by rw [skip_skip]; exact h1.end_⟩
    unfold toldP
    rw [hs]
    dsimp only
    rw [if_neg (fun z => by have := figM_c.mp z; omega)]
    unfold toldW
    rw [hrun]
    dsimp only
    rw [if_neg (fun z => by
      obtain ⟨y, hy, h2⟩ := hn
      rw [h1.end_, hy] at z
      injection z with z
      omega), ← hq, strOf_sg]
    rfl
  | .bin j x y, 0, r, s, _, hd, _, _ => by simp only [Told.dp] at hd; omega
  | .bin j x y, n + 1, r, s, h, hd, hs, hn => by
    simp only [Told.dp] at hd
    obtain ⟨b, r1, rfl, hb, h1⟩ := hs
    obtain ⟨c, q, hq, hc⟩ := wl_hd (jn_wl j)
    have hc1 := (jn_wl j).2.2 c (by rw [hq]; exact .head _)
    have h2 : Sp ([40] :: ((x.tk ++ [44] :: y.tk) ++ [[41]])) r1 s := by simpa using h1
    obtain ⟨b1, r2, rfl, hb1, h3⟩ := id h2
    have hs : skip (b ++ (sg j.w ++ (b1 ++ ([40] ++ r2)))) = c :: (q ++ (b1 ++ ([40] ++ r2))) := by rw [skip_bk hb, hq, List.cons_append, skip_c hc]
    have hrun := wl_run (jn_wl j) (b := []) (r := b1 ++ ([40] ++ r2)) Bk.nil (ed_par hb1)
    rw [List.nil_append, hq, List.cons_append] at hrun
    have hsk : skip (b1 ++ ([40] ++ r2)) = 40 :: r2 := by rw [skip_bk hb1, List.singleton_append, skip_c (by decide)]
    have pc : ∀ t : Told, (t = x ∨ t = y) → PcC n 111 t.d t.tk := fun t ht => by
      have hr : t.rwd := by rcases ht with rfl | rfl; exact h.1; exact h.2
      have hdp : t.dp ≤ n := by rcases ht with rfl | rfl <;> omega
      refine ⟨Told.tk_hd hr, fun ra sa k1 k2 => ?_⟩
      have : ∃ r', toldP (fillP n) ra = some (t.d, r') ∧ skip r' = skip sa := by
        rcases ht with rfl | rfl
        · exact told_cp t n ra sa hr hdp k1 k2
        · exact told_cp t n ra sa hr hdp k1 k2
      exact this
    have pcs : PcsC n (sg (Str.ofString "oo")) [x.d, y.d] (x.tk ++ [44] :: y.tk) := by
      rw [show sg (Str.ofString "oo") = [111, 111] from by decide +kernel]
      exact .cons (pc x (.inl rfl)) (.one (pc y (.inr rfl)))
    have h4 : Sp ([40] :: ((x.tk ++ [44] :: y.tk) ++ [[41]])) (40 :: r2) s := h2.sk ⟨40, [], rfl, by decide⟩ (by rw [hsk, skip_c (by decide)])
    obtain ⟨r', h5, h6⟩ := fill_cp (w := j.w) pcs h4
    refine ⟨r', ?_, h6⟩
    unfold toldP
    rw [hs]
    dsimp only
    rw [if_neg (fun z => by have := figM_c.mp z; omega)]
    unfold toldW
    rw [hrun]
    dsimp only
    rw [hsk, if_pos (show (40 :: r2).head? = some 40 from rfl), ← hq, strOf_sg, if_pos (jn_in j), h5]
    rfl
termination_by t => sizeOf t
theorem pcT {n : Nat} {t : Told} (h : t.rwd) (hd : t.dp ≤ n) : PcC n 111 t.d t.tk := ⟨Told.tk_hd h, fun r s h1 h2 => told_cp t n r s h hd h1 h2⟩
theorem pcW {n : Nat} {x : Str} (h : Wl x) : PcC n 119 (.str x) [sg x] := by
  refine ⟨⟨_, _, rfl, wl_hd h⟩, fun r s hs hn => ?_⟩
  obtain ⟨b, r1, rfl, hb, h1⟩ := hs
  have he : Ed r1 := by
    obtain ⟨b1, rfl, hb1⟩ := h1
    cases b1 with
    | nil => exact hn.ed
    | cons x b1 =>
      intro y hy
      obtain rfl : x = y := Option.some.inj hy
      have := hb1 x (.head _); unfold Al; omega
  refine ⟨r1, ?_, h1.end_⟩
  unfold pieceP
  rw [if_pos rfl, wl_run h hb he]
  dsimp only
  rw [strOf_sg]
theorem pcN {n : Nat} {i : Int} (h : i.natAbs < 10 ^ 13) : PcC n 110 (.int i) [numS i] := by
  refine ⟨⟨_, _, rfl, numS_h i⟩, fun r s hs hn => ?_⟩
  obtain ⟨b, r1, rfl, hb, h1⟩ := hs
  have he : Ed r1 := by
    obtain ⟨b1, rfl, hb1⟩ := h1
    cases b1 with
    | nil => exact hn.ed
    | cons x b1 =>
      intro y hy
      obtain rfl : x = y := Option.some.inj hy
      have := hb1 x (.head _); unfold Al; omega
  refine ⟨r1, ?_, h1.end_⟩
  unfold pieceP
  rw [if_neg (by decide), if_pos rfl, num_cp h hb he]
theorem ask_go {n : Nat} {w form : Str} (hw : Wl w) (hl : asksL.lookup w = some form) {ds : List D} {tks : List (List Nat)} (h : PcsC n (sg form) ds tks) {r s : List Nat} (hs : Sp (sg w :: [40] :: (tks ++ [[41]])) r s) : ∃ r', askP (fillP (n + 1)) r = some (.tup (.str w :: ds), r') ∧ skip r' = skip s := by
  obtain ⟨b, r1, rfl, hb, h1⟩ := hs
  obtain ⟨r', h2, h3⟩ := fill_cp (w := w) h h1
  obtain ⟨b1, r2, rfl, hb1, _⟩ := h1
  refine ⟨r', ?_, h3⟩
  unfold askP
  rw [wl_run hw hb (ed_par hb1)]
  dsimp only
  rw [strOf_sg, hl]
  exact h2
theorem con_go {n : Nat} {w form : Str} (hw : Wl w) (hl : formsL.lookup w = some form) (hne : w ≠ Str.ofString "none") {ds : List D} {tks : List (List Nat)} (h : PcsC n (sg form) ds tks) {r s : List Nat} (hs : Sp (sg w :: [40] :: (tks ++ [[41]])) r s) : ∃ r', conP (fillP (n + 1)) r = some (.tup (.str w :: ds), r') ∧ skip r' = skip s := by
  obtain ⟨b, r1, rfl, hb, h1⟩ := hs
  obtain ⟨r', h2, h3⟩ := fill_cp (w := w) h h1
  obtain ⟨b1, r2, rfl, hb1, _⟩ := h1
  refine ⟨r', ?_, h3⟩
  unfold conP
  rw [wl_run hw hb (ed_par hb1)]
  dsimp only
  rw [strOf_sg, hl]
  dsimp only
  rw [if_neg hne]
  exact h2
theorem Asked.tk_hd : ∀ {q : Asked}, ∃ w ws, q.tk = w :: ws ∧ Hd w
  | .lt a b => ⟨_, _, rfl, wl_hd (word_wl "below" (by decide +kernel))⟩
  | .no a => ⟨_, _, rfl, wl_hd (word_wl "not" (by decide +kernel))⟩
  | .all a b => ⟨_, _, rfl, wl_hd (word_wl "all" (by decide +kernel))⟩
  | .any a b => ⟨_, _, rfl, wl_hd (word_wl "any" (by decide +kernel))⟩
theorem asked_cp : ∀ (q : Asked) (n : Nat) (r s : List Nat), q.rwd → q.bd ≤ n → Sp q.tk r s → ∃ r', askP (fillP n) r = some (q.d, r') ∧ skip r' = skip s
  | .lt _ _, 0, _, _, _, hd, _ => by simp only [Asked.bd] at hd; omega
  | .no _, 0, _, _, _, hd, _ => by simp only [Asked.bd] at hd; omega
  | .all _ _, 0, _, _, _, hd, _ => by simp only [Asked.bd] at hd; omega
  | .any _ _, 0, _, _, _, hd, _ => by simp only [Asked.bd] at hd; omega
  | .lt a b, n + 1, r, s, h, hd, hs => by
    simp only [Asked.bd] at hd
    refine ask_go (word_wl "below" (by decide +kernel)) (form := Str.ofString "oo") (by decide +kernel) (tks := a.tk ++ [44] :: b.tk) ?_ (by simpa [Asked.tk, wS] using hs)
    rw [show sg (Str.ofString "oo") = [111, 111] from by decide +kernel]
    exact .cons (pcT h.1 (by omega)) (.one (pcT h.2 (by omega)))
  | .no a, n + 1, r, s, h, hd, hs => by
    simp only [Asked.bd] at hd
    refine ask_go (word_wl "not" (by decide +kernel)) (form := Str.ofString "a") (by decide +kernel) (tks := a.tk) ?_ (by simpa [Asked.tk, wS] using hs)
    rw [show sg (Str.ofString "a") = [97] from by decide +kernel]
    exact .one ⟨Asked.tk_hd, fun r s k _ => asked_cp a n r s h (by omega) k⟩
  | .all a b, n + 1, r, s, h, hd, hs => by
    simp only [Asked.bd] at hd
    refine ask_go (word_wl "all" (by decide +kernel)) (form := Str.ofString "aa") (by decide +kernel) (tks := a.tk ++ [44] :: b.tk) ?_ (by simpa [Asked.tk, wS] using hs)
    rw [show sg (Str.ofString "aa") = [97, 97] from by decide +kernel]
    exact .cons ⟨Asked.tk_hd, fun r s k _ => asked_cp a n r s h.1 (by omega) k⟩ (.one ⟨Asked.tk_hd, fun r s k _ => asked_cp b n r s h.2 (by omega) k⟩)
  | .any a b, n + 1, r, s, h, hd, hs => by
    simp only [Asked.bd] at hd
    refine ask_go (word_wl "any" (by decide +kernel)) (form := Str.ofString "aa") (by decide +kernel) (tks := a.tk ++ [44] :: b.tk) ?_ (by simpa [Asked.tk, wS] using hs)
    rw [show sg (Str.ofString "aa") = [97, 97] from by decide +kernel]
    exact .cons ⟨Asked.tk_hd, fun r s k _ => asked_cp a n r s h.1 (by omega) k⟩ (.one ⟨Asked.tk_hd, fun r s k _ => asked_cp b n r s h.2 (by omega) k⟩)
theorem pcA {n : Nat} {q : Asked} (h : q.rwd) (hd : q.bd ≤ n) : PcC n 97 q.d q.tk := ⟨Asked.tk_hd, fun r s k _ => asked_cp q n r s h hd k⟩
theorem Con.tk_hd : ∀ {c : Con}, ∃ w ws, c.tk = w :: ws ∧ Hd w
  | .no => ⟨_, _, rfl, wl_hd (word_wl "none" (by decide +kernel))⟩
  | .give _ _ _ _ => ⟨_, _, rfl, wl_hd (word_wl "give" (by decide +kernel))⟩
  | .both _ _ => ⟨_, _, rfl, wl_hd (word_wl "both" (by decide +kernel))⟩
  | .turned _ _ _ => ⟨_, _, rfl, wl_hd (word_wl "turned" (by decide +kernel))⟩
  | .later _ _ => ⟨_, _, rfl, wl_hd (word_wl "later" (by decide +kernel))⟩
  | .often _ _ _ => ⟨_, _, rfl, wl_hd (word_wl "often" (by decide +kernel))⟩
  | .ite _ _ _ => ⟨_, _, rfl, wl_hd (word_wl "if" (by decide +kernel))⟩
  | .when _ _ => ⟨_, _, rfl, wl_hd (word_wl "when" (by decide +kernel))⟩
  | .till _ _ => ⟨_, _, rfl, wl_hd (word_wl "until" (by decide +kernel))⟩
theorem con_cp : ∀ (c : Con) (n : Nat) (r s : List Nat), c.rwd → c.bd ≤ n → Sp c.tk r s → Ed s → ∃ r', conP (fillP n) r = some (c.d, r') ∧ skip r' = skip s
  | .no, n, r, s, _, _, hs, he => by
    obtain ⟨b, r1, rfl, hb, h1⟩ := hs
    have he : Ed r1 := by
      obtain ⟨b1, rfl, hb1⟩ := h1
      cases b1 with
      | nil => exact he
      | cons x b1 =>
        intro y hy
        obtain rfl : x = y := Option.some.inj hy
        have := hb1 x (.head _); unfold Al; omega
    refine ⟨r1, ?_, h1.end_⟩
    unfold conP
    rw [show wS "none" = sg (Str.ofString "none") from rfl, wl_run (word_wl "none" (by decide +kernel)) hb he]
    dsimp only
    rw [strOf_sg, show formsL.lookup (Str.ofString "none") = some (Str.ofString "") from by decide +kernel]
    dsimp only
    rw [if_pos rfl]; rfl
  | .give _ _ _ _, 0, _, _, _, hd, _, _ => by simp only [Con.bd] at hd; omega
  | .both _ _, 0, _, _, _, hd, _, _ => by simp only [Con.bd] at hd; omega
  | .turned _ _ _, 0, _, _, _, hd, _, _ => by simp only [Con.bd] at hd; omega
  | .later _ _, 0, _, _, _, hd, _, _ => by simp only [Con.bd] at hd; omega
  | .often _ _ _, 0, _, _, _, hd, _, _ => by simp only [Con.bd] at hd; omega
  | .ite _ _ _, 0, _, _, _, hd, _, _ => by simp only [Con.bd] at hd; omega
  | .when _ _, 0, _, _, _, hd, _, _ => by simp only [Con.bd] at hd; omega
  | .till _ _, 0, _, _, _, hd, _, _ => by simp only [Con.bd] at hd; omega
  | .give a b g t, n + 1, r, s, h, hd, hs, _ => by
    simp only [Con.bd] at hd
    refine con_go (word_wl "give" (by decide +kernel)) (form := Str.ofString "wwwo") (by decide +kernel) (by decide +kernel) (tks := [sg a] ++ [44] :: ([sg b] ++ [44] :: ([sg g] ++ [44] :: t.tk))) ?_ (by simpa [Con.tk, wS] using hs)
    rw [show sg (Str.ofString "wwwo") = [119, 119, 119, 111] from by decide +kernel]
    exact .cons (pcW h.1) (.cons (pcW h.2.1) (.cons (pcW h.2.2.1) (.one (pcT h.2.2.2 (by omega)))))
  | .both x y, n + 1, r, s, h, hd, hs, _ => by
    simp only [Con.bd] at hd
    refine con_go (word_wl "both" (by decide +kernel)) (form := Str.ofString "cc") (by decide +kernel) (by decide +kernel) (tks := x.tk ++ [44] :: y.tk) ?_ (by simpa [Con.tk, wS] using hs)
    rw [show sg (Str.ofString "cc") = [99, 99] from by decide +kernel]
    exact .cons ⟨Con.tk_hd, fun r s k e => con_cp x n r s h.1 (by omega) k e.ed⟩ (.one ⟨Con.tk_hd, fun r s k e => con_cp y n r s h.2 (by omega) k e.ed⟩)
  | .turned a b x, n + 1, r, s, h, hd, hs, _ => by
    simp only [Con.bd] at hd
    refine con_go (word_wl "turned" (by decide +kernel)) (form := Str.ofString "wwc") (by decide +kernel) (by decide +kernel) (tks := [sg a] ++ [44] :: ([sg b] ++ [44] :: x.tk)) ?_ (by simpa [Con.tk, wS] using hs)
    rw [show sg (Str.ofString "wwc") = [119, 119, 99] from by decide +kernel]
    exact .cons (pcW h.1) (.cons (pcW h.2.1) (.one ⟨Con.tk_hd, fun r s k e => con_cp x n r s h.2.2 (by omega) k e.ed⟩))
  | .later i x, n + 1, r, s, h, hd, hs, _ => by
    simp only [Con.bd] at hd
    refine con_go (word_wl "later" (by decide +kernel)) (form := Str.ofString "nc") (by decide +kernel) (by decide +kernel) (tks := [numS i] ++ [44] :: x.tk) ?_ (by simpa [Con.tk, wS] using hs)
    rw [show sg (Str.ofString "nc") = [110, 99] from by decide +kernel]
    exact .cons (pcN h.1) (.one ⟨Con.tk_hd, fun r s k e => con_cp x n r s h.2 (by omega) k e.ed⟩)
  | .often i j x, n + 1, r, s, h, hd, hs, _ => by
    simp only [Con.bd] at hd
    refine con_go (word_wl "often" (by decide +kernel)) (form := Str.ofString "nnc") (by decide +kernel) (by decide +kernel) (tks := [numS i] ++ [44] :: ([numS j] ++ [44] :: x.tk)) ?_ (by simpa [Con.tk, wS] using hs)
    rw [show sg (Str.ofString "nnc") = [110, 110, 99] from by decide +kernel]
    exact .cons (pcN h.1) (.cons (pcN h.2.1) (.one ⟨Con.tk_hd, fun r s k e => con_cp x n r s h.2.2 (by omega) k e.ed⟩))
  | .ite q x y, n + 1, r, s, h, hd, hs, _ => by
    simp only [Con.bd] at hd
    refine con_go (word_wl "if" (by decide +kernel)) (form := Str.ofString "acc") (by decide +kernel) (by decide +kernel) (tks := q.tk ++ [44] :: (x.tk ++ [44] :: y.tk)) ?_ (by simpa [Con.tk, wS] using hs)
    rw [show sg (Str.ofString "acc") = [97, 99, 99] from by decide +kernel]
    exact .cons (pcA h.1 (by omega)) (.cons ⟨Con.tk_hd, fun r s k e => con_cp x n r s h.2.1 (by omega) k e.ed⟩ (.one ⟨Con.tk_hd, fun r s k e => con_cp y n r s h.2.2 (by omega) k e.ed⟩))
  | .when q x, n + 1, r, s, h, hd, hs, _ => by
    simp only [Con.bd] at hd
    refine con_go (word_wl "when" (by decide +kernel)) (form := Str.ofString "ac") (by decide +kernel) (by decide +kernel) (tks := q.tk ++ [44] :: x.tk) ?_ (by simpa [Con.tk, wS] using hs)
    rw [show sg (Str.ofString "ac") = [97, 99] from by decide +kernel]
    exact .cons (pcA h.1 (by omega)) (.one ⟨Con.tk_hd, fun r s k e => con_cp x n r s h.2 (by omega) k e.ed⟩)
  | .till q x, n + 1, r, s, h, hd, hs, _ => by
    simp only [Con.bd] at hd
    refine con_go (word_wl "until" (by decide +kernel)) (form := Str.ofString "ac") (by decide +kernel) (by decide +kernel) (tks := q.tk ++ [44] :: x.tk) ?_ (by simpa [Con.tk, wS] using hs)
    rw [show sg (Str.ofString "ac") = [97, 99] from by decide +kernel]
    exact .cons (pcA h.1 (by omega)) (.one ⟨Con.tk_hd, fun r s k e => con_cp x n r s h.2 (by omega) k e.ed⟩)
theorem wl_len {x : Str} (h : Wl x) : x.length ≤ 1000 := by
  have h2 : x.cps.toList.length ≤ 8 := h.2.1
  rw [Array.length_toList] at h2
  show x.cps.size ≤ 1000
  omega
theorem wl_ok {x : Str} (h : Wl x) : PyData.strOk x = true := by
  show (x.cps.all fun c => c < 0x110000) = true
  rw [Array.all_eq_true']
  intro c hc
  have h3 := h.2.2 c (Array.mem_toList_iff.mpr hc)
  exact decide_eq_true (by omega)
theorem wl_kd {x : Str} (h : Wl x) {m : Mem} : Kd m (.str x) := .str _ (wl_len h) (wl_ok h)
theorem okWord_wl {x : Str} : okWord (.str x) = true ↔ Wl x := by
  show decide (1 ≤ x.length ∧ x.length ≤ 8 ∧ ∀ c ∈ x.cps.toList, c ∈ smallCps) = true ↔ _
  rw [decide_eq_true_eq]
  have e : x.length = (sg x).length := by show x.cps.size = x.cps.toList.length; simp
  rw [e]
  have g : ∀ c : Nat, c ∈ smallCps ↔ (97 ≤ c ∧ c ≤ 122) := fun c => by
    rw [show smallCps = [97, 98, 99, 100, 101, 102, 103, 104, 105, 106, 107, 108, 109, 110, 111, 112, 113, 114, 115, 116, 117, 118, 119, 120, 121, 122] from by decide +kernel]
    simp only [List.mem_cons, List.not_mem_nil, or_false]
    omega
  exact ⟨fun h => ⟨h.1, h.2.1, fun c hc => (g c).mp (h.2.2 c hc)⟩, fun h => ⟨h.1, h.2.1, fun c hc => (g c).mpr (h.2.2 c hc)⟩⟩
theorem Told.kdr {m : Mem} : ∀ {t : Told}, t.rwd → Kd m t.d
  | .num i, _ => by simp only [Told.d]; wtm_at "kdt"
  | .read x, h => by
    have hk : Kd m (.str x) := wl_kd h
    simp only [Told.d]; wtm_at "kdt"
  | .bin j a b, h => by
    have h1 := Told.kdr (m := m) (t := a) h.1
    have h2 := Told.kdr (m := m) (t := b) h.2
    cases j <;> simp only [Told.d, Jn.w] <;> wtm_at "kdt"
theorem Asked.kdr {m : Mem} : ∀ {q : Asked}, q.rwd → Kd m q.d
  | .lt a b, h => by
    have h1 := Told.kdr (m := m) (t := a) h.1
    have h2 := Told.kdr (m := m) (t := b) h.2
    simp only [Asked.d]; wtm_at "kdt"
  | .no a, h => by
    have h1 := Asked.kdr (m := m) (q := a) h
    simp only [Asked.d]; wtm_at "kdt"
  | .all a b, h => by
    have h1 := Asked.kdr (m := m) (q := a) h.1
    have h2 := Asked.kdr (m := m) (q := b) h.2
    simp only [Asked.d]; wtm_at "kdt"
  | .any a b, h => by
    have h1 := Asked.kdr (m := m) (q := a) h.1
    have h2 := Asked.kdr (m := m) (q := b) h.2
    simp only [Asked.d]; wtm_at "kdt"
theorem Con.kdr {m : Mem} : ∀ {c : Con}, c.rwd → Kd m c.d
  | .no, _ => by simp only [Con.d]; wtm_at "kdt"
  | .give a b g t, ⟨h1, h2, h3, h4⟩ => by
    have h1 : Kd m (.str a) := wl_kd h1
    have h2 : Kd m (.str b) := wl_kd h2
    have h3 : Kd m (.str g) := wl_kd h3
    have h4 := Told.kdr (m := m) h4
    simp only [Con.d]; wtm_at "kdt"
  | .both x y, h => by
    have h1 := Con.kdr (m := m) h.1
    have h2 := Con.kdr (m := m) h.2
    simp only [Con.d]; wtm_at "kdt"
  | .turned a b x, ⟨h1, h2, hx⟩ => by
    have h1 : Kd m (.str a) := wl_kd h1
    have h2 : Kd m (.str b) := wl_kd h2
    have h4 := Con.kdr (m := m) hx
    simp only [Con.d]; wtm_at "kdt"
  | .later u x, h => by
    have h1 := Con.kdr (m := m) h.2
    simp only [Con.d]; wtm_at "kdt"
  | .often u k x, h => by
    have h1 := Con.kdr (m := m) h.2.2
    simp only [Con.d]; wtm_at "kdt"
  | .ite q x y, h => by
    have h1 := Con.kdr (m := m) h.2.1
    have h2 := Con.kdr (m := m) h.2.2
    have h3 := Asked.kdr (m := m) h.1
    simp only [Con.d]; wtm_at "kdt"
  | .when q x, h => by
    have h1 := Con.kdr (m := m) h.2
    have h3 := Asked.kdr (m := m) h.1
    simp only [Con.d]; wtm_at "kdt"
  | .till q x, h => by
    have h1 := Con.kdr (m := m) h.2
    have h3 := Asked.kdr (m := m) h.1
    simp only [Con.d]; wtm_at "kdt"
theorem okTold_back : ∀ {t : Told} {n : Nat}, okTold n t.d = true → t.rwd ∧ t.dp < n
  | .num i, 0, h => by cases h
  | .read x, 0, h => by cases h
  | .bin j a b, 0, h => by cases j <;> cases h
  | .num i, n + 1, h => by
    simp only [Told.d, okTold, if_true, okNum, Bool.and_eq_true, decide_eq_true_eq] at h
    exact ⟨show i.natAbs < 10 ^ 13 by omega, by show 0 < n + 1; omega⟩
  | .read x, n + 1, h => by
    simp only [Told.d, okTold, ofString_inj, String.reduceEq, if_false, if_true] at h
    exact ⟨okWord_wl.mp h, by show 0 < n + 1; omega⟩
  | .bin j a b, n + 1, h => by
    have h : okTold n a.d = true ∧ okTold n b.d = true := by
      cases j <;> simpa [Told.d, Jn.w, okTold, isJoin, ofString_inj] using h
    have h1 := okTold_back h.1
    have h2 := okTold_back h.2
    exact ⟨⟨h1.1, h2.1⟩, by show max a.dp b.dp + 1 < n + 1; omega⟩
theorem okAsked_back : ∀ {q : Asked} {n : Nat}, okAsked n q.d = true → q.rwd ∧ q.bd < n
  | .lt a b, 0, h => by cases h
  | .no a, 0, h => by cases h
  | .all a b, 0, h => by cases h
  | .any a b, 0, h => by cases h
  | .lt a b, n + 1, h => by
    have h : okTold n a.d = true ∧ okTold n b.d = true := by simpa [Asked.d, okAsked, ofString_inj] using h
    have h1 := okTold_back h.1
    have h2 := okTold_back h.2
    exact ⟨⟨h1.1, h2.1⟩, by show max a.dp b.dp + 1 < n + 1; omega⟩
  | .no a, n + 1, h => by
    have h : okAsked n a.d = true := by simpa [Asked.d, okAsked, ofString_inj] using h
    have h1 := okAsked_back h
    exact ⟨h1.1, by show a.bd + 1 < n + 1; omega⟩
  | .all a b, n + 1, h => by
    have h : okAsked n a.d = true ∧ okAsked n b.d = true := by simpa [Asked.d, okAsked, ofString_inj] using h
    have h1 := okAsked_back h.1
    have h2 := okAsked_back h.2
    exact ⟨⟨h1.1, h2.1⟩, by show max a.bd b.bd + 1 < n + 1; omega⟩
  | .any a b, n + 1, h => by
    have h : okAsked n a.d = true ∧ okAsked n b.d = true := by simpa [Asked.d, okAsked, ofString_inj] using h
    have h1 := okAsked_back h.1
    have h2 := okAsked_back h.2
    exact ⟨⟨h1.1, h2.1⟩, by show max a.bd b.bd + 1 < n + 1; omega⟩
theorem okSides_wl {a b : Str} (h : okSides (.str a) (.str b) = true) : Wl a ∧ Wl b := by
  unfold okSides at h
  rw [Bool.and_eq_true, Bool.and_eq_true] at h
  exact ⟨okWord_wl.mp h.1.1, okWord_wl.mp h.1.2⟩
theorem okNum_lim {l u i : Int} (h : okNum l u (.int i) = true) : l ≤ i ∧ i ≤ u := by
  unfold okNum at h
  rw [Bool.and_eq_true] at h
  exact ⟨of_decide_eq_true h.1, of_decide_eq_true h.2⟩
theorem okCon_back : ∀ {c : Con} {n : Nat}, okCon n c.d = true → c.rwd ∧ c.bd < n
  | .no, 0, h => by cases h
  | .give .., 0, h => by cases h
  | .both .., 0, h => by cases h
  | .turned .., 0, h => by cases h
  | .later .., 0, h => by cases h
  | .often .., 0, h => by cases h
  | .ite .., 0, h => by cases h
  | .when .., 0, h => by cases h
  | .till .., 0, h => by cases h
  | .no, n + 1, _ => ⟨trivial, by show 0 < n + 1; omega⟩
  | .give a b g t, n + 1, h => by
    have h : (okWord (.str g) = true ∧ okSides (.str a) (.str b) = true) ∧ okTold n t.d = true := by simpa [Con.d, okCon, ofString_inj] using h
    have h1 := okTold_back h.2
    have h2 := okSides_wl h.1.2
    exact ⟨⟨h2.1, h2.2, okWord_wl.mp h.1.1, h1.1⟩, by show t.dp + 1 < n + 1; omega⟩
  | .both x y, n + 1, h => by
    have h : okCon n x.d = true ∧ okCon n y.d = true := by simpa [Con.d, okCon, ofString_inj] using h
    have h1 := okCon_back h.1
    have h2 := okCon_back h.2
    exact ⟨⟨h1.1, h2.1⟩, by show max x.bd y.bd + 1 < n + 1; omega⟩
  | .turned a b x, n + 1, h => by
    have h : okSides (.str a) (.str b) = true ∧ okCon n x.d = true := by simpa [Con.d, okCon, ofString_inj] using h
    have h1 := okCon_back h.2
    have h2 := okSides_wl h.1
    exact ⟨⟨h2.1, h2.2, h1.1⟩, by show x.bd + 1 < n + 1; omega⟩
  | .later u x, n + 1, h => by
    have h : okNum 0 99 (.int u) = true ∧ okCon n x.d = true := by simpa [Con.d, okCon, ofString_inj] using h
    have h1 := okCon_back h.2
    have h2 := okNum_lim h.1
    exact ⟨⟨by omega, h1.1⟩, by show x.bd + 1 < n + 1; omega⟩
  | .often u k x, n + 1, h => by
    have h : (okNum 1 9 (.int u) = true ∧ okNum 1 99 (.int k) = true) ∧ okCon n x.d = true := by simpa [Con.d, okCon, ofString_inj] using h
    have h1 := okCon_back h.2
    have h2 := okNum_lim h.1.1
    have h3 := okNum_lim h.1.2
    exact ⟨⟨by omega, by omega, h1.1⟩, by show x.bd + 1 < n + 1; omega⟩
  | .ite q x y, n + 1, h => by
    have h : (okAsked n q.d = true ∧ okCon n x.d = true) ∧ okCon n y.d = true := by simpa [Con.d, okCon, ofString_inj] using h
    have h0 := okAsked_back h.1.1
    have h1 := okCon_back h.1.2
    have h2 := okCon_back h.2
    exact ⟨⟨h0.1, h1.1, h2.1⟩, by show max q.bd (max x.bd y.bd) + 1 < n + 1; omega⟩
  | .when q x, n + 1, h => by
    have h : okAsked n q.d = true ∧ okCon n x.d = true := by simpa [Con.d, okCon, ofString_inj] using h
    have h0 := okAsked_back h.1
    have h1 := okCon_back h.2
    exact ⟨⟨h0.1, h1.1⟩, by show max q.bd x.bd + 1 < n + 1; omega⟩
  | .till q x, n + 1, h => by
    have h : okAsked n q.d = true ∧ okCon n x.d = true := by simpa [Con.d, okCon, ofString_inj] using h
    have h0 := okAsked_back h.1
    have h1 := okCon_back h.2
    exact ⟨⟨h0.1, h1.1⟩, by show max q.bd x.bd + 1 < n + 1; omega⟩
theorem readP_cp {c : Con} {t : List Nat} (hl : t.length ≤ 4000) (ok : okCon 12 c.d = true) {s : List Nat} (hs : Sp c.tk t s) (he : skip s = []) (hd : Ed s) : readP t = some c.d := by
  have h1 := okCon_back ok
  obtain ⟨r', e1, e2⟩ := con_cp c 40 t s h1.1 (by omega) hs hd
  unfold readP
  rw [if_neg (by omega), e1]
  show (if skip r' = [] then (if okCon 12 c.d = true then some c.d else none) else none) = _
  rw [e2, he, if_pos rfl, if_pos ok]
theorem readP_ok {t : List Nat} {d : D} (h : readP t = some d) : t.length ≤ 4000 ∧ ∃ c : Con, d = c.d ∧ okCon 12 c.d = true ∧ c.rwd ∧ ∃ s, Sp c.tk t s ∧ skip s = [] := by
  unfold readP at h
  split at h
  · cases h
  rename_i hl
  refine ⟨by omega, ?_⟩
  split at h
  · cases h
  rename_i d' r e
  split at h
  · rename_i h1
    split at h
    · rename_i h2
      injection h with h; subst h
      obtain ⟨c, rfl, hw, hs⟩ := conP_ok (fillP_ok 40) e
      exact ⟨c, rfl, h2, hw, r, hs, h1⟩
    · cases h
  · cases h
def gNR (cB : Addr) (tot : Prop) : SpM := fun ds m Q E => ∃ d, ds = [d] ∧ Kd m d ∧ (okCon 12 d = true → Q .non m) ∧ (okCon 12 d = false → tot ∧ E cB m)
def gRead (cB : Addr) (tot : Prop) : SpM := fun ds m Q E => ∃ t : Str, ds = [.str t] ∧ t.length ≤ sizeLine ∧ (∀ d M, readP (sg t) = some d → Sub m M → Q d M) ∧ (readP (sg t) = none → tot ∧ ∀ M, Sub m M → E cB M)
theorem SubX.off {p : Addr} {m M : Mem} {v : O} (h : SubX p (mput m p v) M) (hp : m p = none) : Sub m M := fun a o e => by
  have ne : a ≠ p := fun z => by rw [z, hp] at e; cases e
  exact h a o (by rw [mput_ne ne]; exact e) ne
abbrev s_read : Stmt := topS 33
theorem sc_read : FnScope ["text", "reader", "found"] ["text"] (defScope s_read) := ⟨rfl, rfl, rfl, by decide +kernel, rfl, by decide +kernel, by decide +kernel⟩
theorem ok_read {k : Nat} {tot : Prop} (V : Gv K mg) (Z : Bl mg) {c_BookError c_BadContract c_BadMarket c_TooMany c_BadText : Addr} (XE : Xcs K mg c_BookError c_BadContract c_BadMarket c_TooMany c_BadText) {C : Addr} (O : ObK K C ["text", "at", "deep"]) {f_Reader___init__ : Addr} {fd_Reader___init__ : FuncData} (C_Reader : Dc K mg "Reader" C f_Reader___init__ fd_Reader___init__ ["self", "text"]) (G_Reader___init__ : FnMB P w K mg base CX0 (k) f_Reader___init__ fd_Reader___init__ ["self", "text"] (gRdI C)) {f_Reader_contract : Addr} {fd_Reader_contract : FuncData} (D_Reader_contract : Dm K C "contract" f_Reader_contract fd_Reader_contract ["self"]) (G_Reader_contract : FnMB P w K mg base (CXB P w) (k + 1) f_Reader_contract fd_Reader_contract ["self"] (gPar C c_BadText 40 (conP (fillP 40)))) {f_Reader_sign : Addr} {fd_Reader_sign : FuncData} (D_Reader_sign : Dm K C "sign" f_Reader_sign fd_Reader_sign ["self"]) (G_Reader_sign : FnMB P w K mg base CX0 (k + 1) f_Reader_sign fd_Reader_sign ["self"] (gSign C)) {f_need_read : Addr} {fd_need_read : FuncData} (D_need_read : Df K mg "need_read" f_need_read fd_need_read ["contract"]) (G_need_read : FnMB P w K mg base (CXB P w) (k + 1) f_need_read fd_need_read ["contract"] (gNR c_BadText tot)) (F : Fun K "read" "read" s_read f_read fd_read) : FnMB P w K mg base (CXB P w) (k + 2) f_read fd_read ["text"] (gRead c_BadText tot) := by
  refine fn_mXB F sc_read (fun ds m Q E h => ?_) (fun cdv A outer s H ds m Q E E' l hc hr h hw => ?_)
  · obtain ⟨t, rfl, _⟩ := h; rfl
  have nd := sc_read.nd
  obtain ⟨t, rfl, sz, q, qe⟩ := h
  refine ⟨_, (mss_cons (ms_if (mt_cmp mo_gt (mx_callB mc_len1 Z.b_len (ma_cons (mv 0) ma_nil)) (mx_gt V.MOST_SIGNS) (nomark _)) (mss_one (bs_raise hc (takesB_of rfl rfl rfl rfl) hw (pmkA_own PySem.F.excBase_ValueError XE.X_BadText.q XE.X_BadText.g XE.X_BadText.k XE.X_BadText.raises rfl))) mss_nil)
    (mss_cons (ms_set (i := 1) nd rfl (.inl rfl) (bx_make (Em := noX) C_Reader.k G_Reader___init__ hr hc C_Reader.g C_Reader.b pass0M (ma_cons (mv 0) ma_nil)))
    (mss_cons (ms_set (i := 2) nd rfl (.inl rfl) (bx_meth0 (Em := E) (mv 1) D_Reader_contract.c D_Reader_contract.m G_Reader_contract hr hc D_Reader_contract.b (passMB (takesB_of rfl rfl rfl rfl) hw)))
    (mss_cons (ms_if (mt_cmp (mo_neq_u (hu65H hr)) (bx_meth0 (Em := noX) (mv 1) D_Reader_sign.c D_Reader_sign.m G_Reader_sign hr hc D_Reader_sign.b pass0M) mx_str (nomark _)) (mss_one (bs_raise hc (takesB_of rfl rfl rfl rfl) hw (pmkA_own PySem.F.excBase_ValueError XE.X_BadText.q XE.X_BadText.g XE.X_BadText.k XE.X_BadText.raises rfl))) mss_nil)
    (mss_cons (ms_expr (bx_call (Em := E) G_need_read hr hc D_need_read.m D_need_read.k D_need_read.b (passMB (takesB_of rfl rfl rfl rfl) hw) (ma_cons (mv 2) ma_nil)))
    (mss_one (ms_ret (mv 2)))))))), ?_⟩
  have el : (sg t).length = t.length := by show t.cps.toList.length = t.cps.size; simp
  wtm_at "go"
  refine i_lenS sz ?_
  wtm_at "go"
  by_cases hl : 4000 < t.length
  · rw [decide_eq_true (show (4000 : Int) < (t.length : Int) by omega)]
    have hn : readP (sg t) = none := by unfold readP; rw [if_pos (by omega)]
    wtm_at "go"
    exact (qe hn).2 _ Sub.refl
  rw [decide_eq_false (show ¬ (4000 : Int) < (t.length : Int) by omega)]
  wtm_at "go"
  intro p hp
  refine ⟨p, t, rfl, mput_same, rfl, ?_⟩
  rw [mput_mput]
  have e1 : mput m p (.ins C (rdF t 0 0)) p = some (.ins C (rdF t 0 0)) := mput_same
  have R1 : RdS C (mput m p (.ins C (rdF t 0 0))) p t 0 0 := ⟨e1, Nat.zero_le _, by omega⟩
  wtm_at "go"
  refine ⟨p, t, 0, 0, rfl, R1, rfl, fun d a1 M g1 g2 x eM => ?_, fun e M x => ?_⟩
  rotate_left
  · have hn : readP (sg t) = none := by
      unfold readP; rw [if_neg (by omega)]
      rw [List.drop_zero] at e; rw [e]
    exact (qe hn).2 _ (x.off hp)
  rw [List.drop_zero] at g2
  have hr2 : readP (sg t) = (if skip ((sg t).drop a1) = [] then (if okCon 12 d = true then some d else none) else none) := by
    unfold readP; rw [if_neg (by omega), g2]
  obtain ⟨c, rfl, hw, _⟩ := conP_ok (fillP_ok 40) g2
  have R2 : RdS C M p t a1 0 := ⟨eM, g1, by omega⟩
  wtm_at "go"
  refine ⟨p, t, a1, 0, rfl, R2, fun a2 h1 h2 h3 => ?_⟩
  have sb : Sub m (mput M p (.ins C (rdF t a2 0))) := (x.trans SubX.here).off hp
  wtm_at "go"
  cases hs : (sg t).drop a2 with
  | cons c0 r0 =>
    have hn : readP (sg t) = none := by rw [hr2, if_neg (by rw [← h3, hs]; simp)]
    rw [sgn_ne]
    wtm_at "go"
    exact (qe hn).2 _ sb
  | nil =>
    rw [h3] at hs
    rw [if_pos hs] at hr2
    wtm_at "go"
    refine ⟨c.d, rfl, c.kdr hw, fun ok => ?_, fun ok => ?_⟩
    · rw [if_pos ok] at hr2
      wtm_at "go"
      exact RtM.mk (q _ _ hr2 sb)
    · rw [if_neg (by rw [ok]; simp)] at hr2
      exact ⟨(qe hr2).1, (qe hr2).2 _ sb⟩
local macro_rules | `(tactic| wtm_at "one") => `(tactic| ((with_reducible apply i_isiK); (focus assumption); (focus decide)))
local macro_rules | `(tactic| wtm_at "one") => `(tactic| (with_reducible refine gMust_in ?_))
local macro_rules | `(tactic| wtm_at "one") => `(tactic| with_reducible (refine i_raiseS ?_))
local macro_rules | `(tactic| wtm_at "one") => `(tactic| with_reducible (refine i_wcallS ?_))
local macro_rules | `(tactic| wtm_at "one") => `(tactic| with_reducible (refine i_try ?_))
abbrev s_need_read : Stmt := topS 34
theorem sc_need_read : FnScope ["contract", "e"] ["contract"] (defScope s_need_read) := ⟨rfl, rfl, rfl, by decide +kernel, rfl, by decide +kernel, by decide +kernel⟩
theorem ok_need_readX {k : Nat} (Z : Bl mg) {c_BookError c_BadContract c_BadMarket c_TooMany c_BadText : Addr} (XE : Xcs K mg c_BookError c_BadContract c_BadMarket c_TooMany c_BadText) (HS : PySem.W.findIn K (.ref c_BadContract) "__str__" = some (some (.builtin "BaseException.__str__"))) {f_need_contract : Addr} {fd_need_contract : FuncData} (D_need_contract : Df K mg "need_contract" f_need_contract fd_need_contract ["contract"]) (G_need_contract : FnMB P w K mg base (CXB P w) (k) f_need_contract fd_need_contract ["contract"] (gNeedCon c_BadContract)) (F : Fun K "need_read" "need_read" s_need_read f_need_read fd_need_read) : FnMB P w K mg base (CXB P w) (k + 1) f_need_read fd_need_read ["contract"] (gNR c_BadText True) := by
  refine fn_mXB F sc_need_read (fun ds m Q E h => ?_) (fun cdv A outer s H ds m Q E E' l hc hr h hw => ?_)
  · obtain ⟨d, rfl, _⟩ := h; rfl
  have nd := sc_need_read.nd
  have hu : (A.deeper (envOfC "need_read" (defScope s_need_read) s.heap.objs.size f_need_read cdv)).units + 2 < cLine := by have := hu65H hr; omega
  obtain ⟨d, rfl, hk, q, qe⟩ := h
  refine ⟨_, (mss_one (bs_try_asX (i := 1) (C := c_BadContract) rfl rfl nd rfl rfl ⟨rfl, by decide, .inl XE.X_BadContract.g⟩ XE.s_BadContract (takesB_of rfl rfl rfl rfl) (fun B' Es W pn xe sub tk hw' => (mss_one (ms_expr (bx_callS (Es := Es) G_need_contract hr (hc.tr sub) D_need_contract.m D_need_contract.k D_need_contract.b (fun σ => passAtB tk σ) hw' (ma_cons (mv 0) ma_nil))))) (fun a pn xe hz tk hot => (mss_one (bs_raiseS hot tk hw PySem.F.excBase_ValueError XE.X_BadText.q XE.X_BadText.g XE.X_BadText.k XE.X_BadText.raises rfl (mx_callTy (mc_strE hz HS XE.X_BadContract.c.hs hu) Z.b_str (ma_cons (mv 1) ma_nil))))))), ?_⟩
  wtm_at "go"
  refine ⟨d, rfl, hk, ?_⟩
  cases hg : okCon 12 d with
  | true =>
    wtm_at "go"
    try exact RtM.mk (q hg)
  | false =>
    wtm_at "go"
    refine ⟨rfl, fun a _ => i_raiseS ?_⟩
    wtm_at "go"
    exact i_strE fun t => ⟨t, rfl, (qe hg).2⟩
theorem txt_len {i : Int} (h : i.natAbs ≤ 10 ^ 13) : (Str.ofString (toString i)).length ≤ 16 := by
  have := PySem.int_text_length_le10 (a := i) (k := 14) (by decide) (by omega)
  rw [PySem.ofString_length]
  omega
theorem sgn_len {i : Int} : (sgnOf i).length = 1 := rfl
theorem wordw_len {s : Dr} (B : DrB s) {k : Int} : (wordOf s k).length ≤ 10 := by
  unfold wordOf
  split
  · rename_i h
    cases e : talkWords[k.toNat]? with
    | none => show (Str.ofString "").length ≤ 10; decide +kernel
    | some x =>
      have : x ∈ talkWords := List.mem_of_getElem? e
      have h2 : ∀ x ∈ talkWords, x.length ≤ 10 := by decide +kernel
      exact h2 x this
  · have hz := B.z1
    have hp0 := B.p0
    have hp1 := B.p1
    rw [PySem.Str.length_append, PySem.Str.length_append, len_q hp0, len_q (by omega), sgn_len]
    omega
theorem many_len {w : Str} {zs : List Str} : (w ++ "(" ++ Txt.join ", " zs ++ ")").length ≤ w.length + 2 + ((zs.map (·.length)).sum + zs.length * 2) := by
  have hj := join_le (a := Str.ofString ", ") (ys := zs)
  have h2 : (Str.ofString ", ").length = 2 := by decide +kernel
  have l1 : (Str.ofString "(").length = 1 := by decide +kernel
  have l3 : (Str.ofString ")").length = 1 := by decide +kernel
  rw [h2] at hj
  rw [PySem.Str.length_append, PySem.Str.length_append, PySem.Str.length_append, l1, l3]
  omega
theorem Told.shape (t : Told) : ∃ ds, t.d = .tup ds := by cases t <;> exact ⟨_, rfl⟩
theorem Asked.shape (t : Asked) : ∃ ds, t.d = .tup ds := by cases t <;> exact ⟨_, rfl⟩
theorem Con.shape (t : Con) : ∃ ds, t.d = .tup ds := by cases t <;> exact ⟨_, rfl⟩
theorem Told.pc {t : Told} {n : Nat} {z : Str} (h : Wn n t.d z) : WnP n t.d z := by obtain ⟨ds, e⟩ := t.shape; rw [e] at h ⊢; exact .tup h
theorem Asked.pc {t : Asked} {n : Nat} {z : Str} (h : Wn n t.d z) : WnP n t.d z := by obtain ⟨ds, e⟩ := t.shape; rw [e] at h ⊢; exact .tup h
theorem Con.pc {t : Con} {n : Nat} {z : Str} (h : Wn n t.d z) : WnP n t.d z := by obtain ⟨ds, e⟩ := t.shape; rw [e] at h ⊢; exact .tup h
theorem nw {w : Str} (h : w ∈ (["plus", "minus", "times", "most", "least", "below", "not", "all", "any", "none", "give", "both", "turned", "later", "often", "if", "when", "until"] : List Str)) : w ≠ "num" ∧ w ≠ "read" ∧ w.length ≤ 10 := by
  revert w
  decide +kernel
theorem pow4 (d : Nat) : 1 ≤ 4 ^ d ∧ 4 ^ (d + 1) = 4 * 4 ^ d := ⟨Nat.pow_pos (by decide), by rw [Nat.pow_succ]; omega⟩
theorem pow4_le {a b : Nat} (h : a ≤ b) : 4 ^ a ≤ 4 ^ b := Nat.pow_le_pow_right (by decide) h
theorem Told.wr {nms : List Str} (hn : ∀ x ∈ nms, x.length ≤ 10) : ∀ (t : Told) (n : Nat), t.of nms → t.dp ≤ n → t.dp ≤ 4 → ∃ z, Wn n t.d z ∧ z.length ≤ 20 * 4 ^ t.dp
  | .num i, n, h, _, _ => ⟨_, .num (by have : i.natAbs ≤ 10 ^ 12 := Nat.le_of_lt h; omega), by
    have : i.natAbs ≤ 10 ^ 12 := Nat.le_of_lt h
    have := txt_len (i := i) (by omega)
    show _ ≤ 20 * 4 ^ 0
    omega⟩
  | .read x, n, h, _, _ => ⟨_, .read, by
    have := hn x h
    show _ ≤ 20 * 4 ^ 0
    omega⟩
  | .bin j a b, n, h, hd, h4 => by
    have hd' : max a.dp b.dp + 1 ≤ n := hd
    have h4' : max a.dp b.dp + 1 ≤ 4 := h4
    obtain ⟨n, rfl⟩ : ∃ k, n = k + 1 := ⟨n - 1, by omega⟩
    obtain ⟨z1, w1, l1⟩ := Told.wr hn a n h.1 (by omega) (by omega)
    obtain ⟨z2, w2, l2⟩ := Told.wr hn b n h.2 (by omega) (by omega)
    have m1 := pow4_le (Nat.le_max_left a.dp b.dp)
    have m2 := pow4_le (Nat.le_max_right a.dp b.dp)
    have m3 : 4 ^ max a.dp b.dp ≤ 4 ^ 4 := pow4_le (by omega)
    obtain ⟨p1, p2⟩ := pow4 (max a.dp b.dp)
    obtain ⟨q1, q2, q3⟩ := nw (w := j.w) (by cases j <;> decide)
    refine ⟨_, .many q1 q2 (.cons (Told.pc w1) (.cons (Told.pc w2) .nil)) (by simp) q3 ?_, ?_⟩
    · simp only [List.map_cons, List.map_nil, List.sum_cons, List.sum_nil]; omega
    · have := many_len (w := j.w) (zs := [z1, z2])
      simp only [List.map_cons, List.map_nil, List.sum_cons, List.sum_nil, List.length_cons, List.length_nil] at this
      show _ ≤ 20 * 4 ^ (max a.dp b.dp + 1)
      omega
theorem Asked.wr {nms : List Str} (hn : ∀ x ∈ nms, x.length ≤ 10) : ∀ (t : Asked) (n : Nat), t.of nms → t.dp + 2 ≤ n → t.dp ≤ 4 → t.td ≤ 1 → ∃ z, Wn n t.d z ∧ z.length ≤ 200 * 4 ^ t.dp
  | .lt a b, n, h, hd, h4, ht => by
    have hd' : 0 + 2 ≤ n := hd
    have ht' : max a.dp b.dp ≤ 1 := ht
    obtain ⟨n, rfl⟩ : ∃ k, n = k + 1 := ⟨n - 1, by omega⟩
    obtain ⟨z1, w1, l1⟩ := Told.wr hn a n h.1 (by omega) (by omega)
    obtain ⟨z2, w2, l2⟩ := Told.wr hn b n h.2 (by omega) (by omega)
    have m1 : 4 ^ a.dp ≤ 4 ^ 1 := pow4_le (by omega)
    have m2 : 4 ^ b.dp ≤ 4 ^ 1 := pow4_le (by omega)
    obtain ⟨q1, q2, q3⟩ := nw (w := "below") (by decide)
    refine ⟨_, .many q1 q2 (.cons (Told.pc w1) (.cons (Told.pc w2) .nil)) (by simp) q3 ?_, ?_⟩
    · simp only [List.map_cons, List.map_nil, List.sum_cons, List.sum_nil]; omega
    · have := many_len (w := "below") (zs := [z1, z2])
      simp only [List.map_cons, List.map_nil, List.sum_cons, List.sum_nil, List.length_cons, List.length_nil] at this
      show _ ≤ 200 * 4 ^ 0
      omega
  | .no a, n, h, hd, h4, ht => by
    have hd' : a.dp + 1 + 2 ≤ n := hd
    have h4' : a.dp + 1 ≤ 4 := h4
    obtain ⟨n, rfl⟩ : ∃ k, n = k + 1 := ⟨n - 1, by omega⟩
    obtain ⟨z1, w1, l1⟩ := Asked.wr hn a n h (by omega) (by omega) ht
    have m3 : 4 ^ a.dp ≤ 4 ^ 4 := pow4_le (by omega)
    obtain ⟨p1, p2⟩ := pow4 a.dp
    obtain ⟨q1, q2, q3⟩ := nw (w := "not") (by decide)
    refine ⟨_, .many q1 q2 (.cons (Asked.pc w1) .nil) (by simp) q3 ?_, ?_⟩
    · simp only [List.map_cons, List.map_nil, List.sum_cons, List.sum_nil]; omega
    · have := many_len (w := "not") (zs := [z1])
      simp only [List.map_cons, List.map_nil, List.sum_cons, List.sum_nil, List.length_cons, List.length_nil] at this
      show _ ≤ 200 * 4 ^ (a.dp + 1)
      omega
  | .all a b, n, h, hd, h4, ht => by
    have hd' : max a.dp b.dp + 1 + 2 ≤ n := hd
    have h4' : max a.dp b.dp + 1 ≤ 4 := h4
    have ht' : max a.td b.td ≤ 1 := ht
    obtain ⟨n, rfl⟩ : ∃ k, n = k + 1 := ⟨n - 1, by omega⟩
    obtain ⟨z1, w1, l1⟩ := Asked.wr hn a n h.1 (by omega) (by omega) (by omega)
    obtain ⟨z2, w2, l2⟩ := Asked.wr hn b n h.2 (by omega) (by omega) (by omega)
    have m1 := pow4_le (Nat.le_max_left a.dp b.dp)
    have m2 := pow4_le (Nat.le_max_right a.dp b.dp)
    have m3 : 4 ^ max a.dp b.dp ≤ 4 ^ 4 := pow4_le (by omega)
    obtain ⟨p1, p2⟩ := pow4 (max a.dp b.dp)
    obtain ⟨q1, q2, q3⟩ := nw (w := "all") (by decide)
    refine ⟨_, .many q1 q2 (.cons (Asked.pc w1) (.cons (Asked.pc w2) .nil)) (by simp) q3 ?_, ?_⟩
    · simp only [List.map_cons, List.map_nil, List.sum_cons, List.sum_nil]; omega
    · have := many_len (w := "all") (zs := [z1, z2])
      simp only [List.map_cons, List.map_nil, List.sum_cons, List.sum_nil, List.length_cons, List.length_nil] at this
      show _ ≤ 200 * 4 ^ (max a.dp b.dp + 1)
      omega
  | .any a b, n, h, hd, h4, ht => by
    have hd' : max a.dp b.dp + 1 + 2 ≤ n := hd
    have h4' : max a.dp b.dp + 1 ≤ 4 := h4
    have ht' : max a.td b.td ≤ 1 := ht
    obtain ⟨n, rfl⟩ : ∃ k, n = k + 1 := ⟨n - 1, by omega⟩
    obtain ⟨z1, w1, l1⟩ := Asked.wr hn a n h.1 (by omega) (by omega) (by omega)
    obtain ⟨z2, w2, l2⟩ := Asked.wr hn b n h.2 (by omega) (by omega) (by omega)
    have m1 := pow4_le (Nat.le_max_left a.dp b.dp)
    have m2 := pow4_le (Nat.le_max_right a.dp b.dp)
    have m3 : 4 ^ max a.dp b.dp ≤ 4 ^ 4 := pow4_le (by omega)
    obtain ⟨p1, p2⟩ := pow4 (max a.dp b.dp)
    obtain ⟨q1, q2, q3⟩ := nw (w := "any") (by decide)
    refine ⟨_, .many q1 q2 (.cons (Asked.pc w1) (.cons (Asked.pc w2) .nil)) (by simp) q3 ?_, ?_⟩
    · simp only [List.map_cons, List.map_nil, List.sum_cons, List.sum_nil]; omega
    · have := many_len (w := "any") (zs := [z1, z2])
      simp only [List.map_cons, List.map_nil, List.sum_cons, List.sum_nil, List.length_cons, List.length_nil] at this
      show _ ≤ 200 * 4 ^ (max a.dp b.dp + 1)
      omega
theorem sides_len {s : Dr} (B : DrB s) {a b : Str} (h : sidesOf (wordOf s) a b) : a.length ≤ 10 ∧ b.length ≤ 10 := by
  obtain ⟨i, j, _, _, _, _, _, rfl, rfl⟩ := h
  exact ⟨wordw_len B, wordw_len B⟩
theorem good_len {s : Dr} (B : DrB s) {a : Str} (h : goodOf (wordOf s) a) : a.length ≤ 10 := by
  obtain ⟨i, _, _, rfl⟩ := h
  exact wordw_len B
theorem Con.wr {s : Dr} (B : DrB s) {nms : List Str} (hn : ∀ x ∈ nms, x.length ≤ 10) : ∀ (c : Con) (n : Nat), c.of (wordOf s) nms → c.dp + 5 ≤ n → c.dp ≤ 5 → ∃ z, Wn n c.d z ∧ z.length ≤ 4000 * 4 ^ c.dp
  | .no, n, h, hd, h5 => by
    obtain ⟨q1, q2, q3⟩ := nw (w := "none") (by decide)
    exact ⟨_, .one q1 q2, by show _ ≤ 4000 * 4 ^ 0; omega⟩
  | .give a b g t, n, h, hd, h5 => by
    have hd' : 0 + 5 ≤ n := hd
    obtain ⟨n, rfl⟩ : ∃ k, n = k + 1 := ⟨n - 1, by omega⟩
    obtain ⟨h1, h2, h3, h4⟩ := h
    obtain ⟨z1, w1, l1⟩ := Told.wr hn t n h3 (by omega) (by omega)
    obtain ⟨la, lb⟩ := sides_len B h1
    have lg := good_len B h2
    have m1 : 4 ^ t.dp ≤ 4 ^ 2 := pow4_le (by omega)
    obtain ⟨q1, q2, q3⟩ := nw (w := "give") (by decide)
    refine ⟨_, .many q1 q2 (.cons .str (.cons .str (.cons .str (.cons (Told.pc w1) .nil)))) (by simp) q3 ?_, ?_⟩
    · simp only [List.map_cons, List.map_nil, List.sum_cons, List.sum_nil]; omega
    · have := many_len (w := "give") (zs := [a, b, g, z1])
      simp only [List.map_cons, List.map_nil, List.sum_cons, List.sum_nil, List.length_cons, List.length_nil] at this
      show _ ≤ 4000 * 4 ^ 0
      omega
  | .both x y, n, h, hd, h5 => by
    have hd' : max x.dp y.dp + 1 + 5 ≤ n := hd
    have h5' : max x.dp y.dp + 1 ≤ 5 := h5
    obtain ⟨n, rfl⟩ : ∃ k, n = k + 1 := ⟨n - 1, by omega⟩
    obtain ⟨z1, w1, l1⟩ := Con.wr B hn x n h.1 (by omega) (by omega)
    obtain ⟨z2, w2, l2⟩ := Con.wr B hn y n h.2 (by omega) (by omega)
    have m1 := pow4_le (Nat.le_max_left x.dp y.dp)
    have m2 := pow4_le (Nat.le_max_right x.dp y.dp)
    have m3 : 4 ^ max x.dp y.dp ≤ 4 ^ 4 := pow4_le (by omega)
    obtain ⟨p1, p2⟩ := pow4 (max x.dp y.dp)
    obtain ⟨q1, q2, q3⟩ := nw (w := "both") (by decide)
    refine ⟨_, .many q1 q2 (.cons (Con.pc w1) (.cons (Con.pc w2) .nil)) (by simp) q3 ?_, ?_⟩
    · simp only [List.map_cons, List.map_nil, List.sum_cons, List.sum_nil]; omega
    · have := many_len (w := "both") (zs := [z1, z2])
      simp only [List.map_cons, List.map_nil, List.sum_cons, List.sum_nil, List.length_cons, List.length_nil] at this
      show _ ≤ 4000 * 4 ^ (max x.dp y.dp + 1)
      omega
  | .turned a b x, n, h, hd, h5 => by
    have hd' : x.dp + 1 + 5 ≤ n := hd
    have h5' : x.dp + 1 ≤ 5 := h5
    obtain ⟨n, rfl⟩ : ∃ k, n = k + 1 := ⟨n - 1, by omega⟩
    obtain ⟨z1, w1, l1⟩ := Con.wr B hn x n h.2 (by omega) (by omega)
    obtain ⟨la, lb⟩ := sides_len B h.1
    have m3 : 4 ^ x.dp ≤ 4 ^ 4 := pow4_le (by omega)
    obtain ⟨p1, p2⟩ := pow4 (x.dp)
    obtain ⟨q1, q2, q3⟩ := nw (w := "turned") (by decide)
    refine ⟨_, .many q1 q2 (.cons .str (.cons .str (.cons (Con.pc w1) .nil))) (by simp) q3 ?_, ?_⟩
    · simp only [List.map_cons, List.map_nil, List.sum_cons, List.sum_nil]; omega
    · have := many_len (w := "turned") (zs := [a, b, z1])
      simp only [List.map_cons, List.map_nil, List.sum_cons, List.sum_nil, List.length_cons, List.length_nil] at this
      show _ ≤ 4000 * 4 ^ (x.dp + 1)
      omega
  | .later v x, n, h, hd, h5 => by
    have hd' : x.dp + 1 + 5 ≤ n := hd
    have h5' : x.dp + 1 ≤ 5 := h5
    obtain ⟨n, rfl⟩ : ∃ k, n = k + 1 := ⟨n - 1, by omega⟩
    obtain ⟨z1, w1, l1⟩ := Con.wr B hn x n h.2 (by omega) (by omega)
    have lv := txt_len (i := v) (by have := h.1; omega)
    have m3 : 4 ^ x.dp ≤ 4 ^ 4 := pow4_le (by omega)
    obtain ⟨p1, p2⟩ := pow4 (x.dp)
    obtain ⟨q1, q2, q3⟩ := nw (w := "later") (by decide)
    refine ⟨_, .many q1 q2 (.cons (.int (by have := h.1; omega)) (.cons (Con.pc w1) .nil)) (by simp) q3 ?_, ?_⟩
    · simp only [List.map_cons, List.map_nil, List.sum_cons, List.sum_nil]; omega
    · have := many_len (w := "later") (zs := [Str.ofString (toString v), z1])
      simp only [List.map_cons, List.map_nil, List.sum_cons, List.sum_nil, List.length_cons, List.length_nil] at this
      show _ ≤ 4000 * 4 ^ (x.dp + 1)
      omega
  | .often v u x, n, h, hd, h5 => by
    have hd' : x.dp + 1 + 5 ≤ n := hd
    have h5' : x.dp + 1 ≤ 5 := h5
    obtain ⟨n, rfl⟩ : ∃ k, n = k + 1 := ⟨n - 1, by omega⟩
    obtain ⟨z1, w1, l1⟩ := Con.wr B hn x n h.2 (by omega) (by omega)
    have lv := txt_len (i := v) (by have := h.1; omega)
    have lu := txt_len (i := u) (by have := h.1; omega)
    have m3 : 4 ^ x.dp ≤ 4 ^ 4 := pow4_le (by omega)
    obtain ⟨p1, p2⟩ := pow4 (x.dp)
    obtain ⟨q1, q2, q3⟩ := nw (w := "often") (by decide)
    refine ⟨_, .many q1 q2 (.cons (.int (by have := h.1; omega)) (.cons (.int (by have := h.1; omega)) (.cons (Con.pc w1) .nil))) (by simp) q3 ?_, ?_⟩
    · simp only [List.map_cons, List.map_nil, List.sum_cons, List.sum_nil]; omega
    · have := many_len (w := "often") (zs := [Str.ofString (toString v), Str.ofString (toString u), z1])
      simp only [List.map_cons, List.map_nil, List.sum_cons, List.sum_nil, List.length_cons, List.length_nil] at this
      show _ ≤ 4000 * 4 ^ (x.dp + 1)
      omega
  | .ite q x y, n, h, hd, h5 => by
    have hd' : max x.dp y.dp + 1 + 5 ≤ n := hd
    have h5' : max x.dp y.dp + 1 ≤ 5 := h5
    obtain ⟨n, rfl⟩ : ∃ k, n = k + 1 := ⟨n - 1, by omega⟩
    obtain ⟨z1, w1, l1⟩ := Con.wr B hn x n h.2.1 (by omega) (by omega)
    obtain ⟨z2, w2, l2⟩ := Con.wr B hn y n h.2.2 (by omega) (by omega)
    have m1 := pow4_le (Nat.le_max_left x.dp y.dp)
    have m2 := pow4_le (Nat.le_max_right x.dp y.dp)
    obtain ⟨⟨o1, o2, o3⟩, _⟩ := id h
    obtain ⟨z0, w0, l0⟩ := Asked.wr hn q n o1 (by omega) (by omega) o3
    have m0 : 4 ^ q.dp ≤ 4 ^ 2 := pow4_le (by omega)
    have m3 : 4 ^ max x.dp y.dp ≤ 4 ^ 4 := pow4_le (by omega)
    obtain ⟨p1, p2⟩ := pow4 (max x.dp y.dp)
    obtain ⟨q1, q2, q3⟩ := nw (w := "if") (by decide)
    refine ⟨_, .many q1 q2 (.cons (Asked.pc w0) (.cons (Con.pc w1) (.cons (Con.pc w2) .nil))) (by simp) q3 ?_, ?_⟩
    · simp only [List.map_cons, List.map_nil, List.sum_cons, List.sum_nil]; omega
    · have := many_len (w := "if") (zs := [z0, z1, z2])
      simp only [List.map_cons, List.map_nil, List.sum_cons, List.sum_nil, List.length_cons, List.length_nil] at this
      show _ ≤ 4000 * 4 ^ (max x.dp y.dp + 1)
      omega
  | .when q x, n, h, hd, h5 => by
    have hd' : x.dp + 1 + 5 ≤ n := hd
    have h5' : x.dp + 1 ≤ 5 := h5
    obtain ⟨n, rfl⟩ : ∃ k, n = k + 1 := ⟨n - 1, by omega⟩
    obtain ⟨z1, w1, l1⟩ := Con.wr B hn x n h.2 (by omega) (by omega)
    obtain ⟨⟨o1, o2, o3⟩, _⟩ := id h
    obtain ⟨z0, w0, l0⟩ := Asked.wr hn q n o1 (by omega) (by omega) o3
    have m0 : 4 ^ q.dp ≤ 4 ^ 2 := pow4_le (by omega)
    have m3 : 4 ^ x.dp ≤ 4 ^ 4 := pow4_le (by omega)
    obtain ⟨p1, p2⟩ := pow4 (x.dp)
    obtain ⟨q1, q2, q3⟩ := nw (w := "when") (by decide)
    refine ⟨_, .many q1 q2 (.cons (Asked.pc w0) (.cons (Con.pc w1) .nil)) (by simp) q3 ?_, ?_⟩
    · simp only [List.map_cons, List.map_nil, List.sum_cons, List.sum_nil]; omega
    · have := many_len (w := "when") (zs := [z0, z1])
      simp only [List.map_cons, List.map_nil, List.sum_cons, List.sum_nil, List.length_cons, List.length_nil] at this
      show _ ≤ 4000 * 4 ^ (x.dp + 1)
      omega
  | .till q x, n, h, hd, h5 => by
    have hd' : x.dp + 1 + 5 ≤ n := hd
    have h5' : x.dp + 1 ≤ 5 := h5
    obtain ⟨n, rfl⟩ : ∃ k, n = k + 1 := ⟨n - 1, by omega⟩
    obtain ⟨z1, w1, l1⟩ := Con.wr B hn x n h.2 (by omega) (by omega)
    obtain ⟨⟨o1, o2, o3⟩, _⟩ := id h
    obtain ⟨z0, w0, l0⟩ := Asked.wr hn q n o1 (by omega) (by omega) o3
    have m0 : 4 ^ q.dp ≤ 4 ^ 2 := pow4_le (by omega)
    have m3 : 4 ^ x.dp ≤ 4 ^ 4 := pow4_le (by omega)
    obtain ⟨p1, p2⟩ := pow4 (x.dp)
    obtain ⟨q1, q2, q3⟩ := nw (w := "until") (by decide)
    refine ⟨_, .many q1 q2 (.cons (Asked.pc w0) (.cons (Con.pc w1) .nil)) (by simp) q3 ?_, ?_⟩
    · simp only [List.map_cons, List.map_nil, List.sum_cons, List.sum_nil]; omega
    · have := many_len (w := "until") (zs := [z0, z1])
      simp only [List.map_cons, List.map_nil, List.sum_cons, List.sum_nil, List.length_cons, List.length_nil] at this
      show _ ≤ 4000 * 4 ^ (x.dp + 1)
      omega
theorem sg_app {a b : Str} : sg (a ++ b) = sg a ++ sg b := by
  show (a.cps ++ b.cps).toList = _
  rw [Array.toList_append]; rfl
def joinC : List Str → List Nat
  | [] => []
  | [z] => sg z
  | z :: y :: r => sg z ++ ([44] ++ ([32] ++ joinC (y :: r)))
theorem sg_join : ∀ zs : List Str, sg (Txt.join ", " zs) = joinC zs := fun zs => by
  have hc : TL.tl (Str.ofString ", ") = [44, 32] := by show (Str.ofString ", ").cps.toList = _; decide +kernel
  rw [TL.join_eq]
  show TL.tl _ = _
  rw [TL.tl_join, show TL.tl (", " : Str) = [44, 32] from hc]
  induction zs with
  | nil => rfl
  | cons z r ih =>
    cases r with
    | nil => rfl
    | cons y r =>
      have e : TL.joinL [44, 32] ((z :: y :: r).map TL.tl) = TL.tl z ++ ([44, 32] ++ TL.joinL [44, 32] ((y :: r).map TL.tl)) := by
        simp only [List.map_cons, TL.joinL, List.append_assoc]
      rw [e, ih]; rfl
theorem sg_many {w : Str} {zs : List Str} {s : List Nat} : sg (w ++ "(" ++ Txt.join ", " zs ++ ")") ++ s = sg w ++ ([40] ++ (joinC zs ++ ([41] ++ s))) := by
  rw [sg_app, sg_app, sg_app, sg_join, show sg ("(" : Str) = [40] from by decide +kernel, show sg (")" : Str) = [41] from by decide +kernel]
  simp only [List.append_assoc]
theorem sp_w {w : List Nat} {ws : List (List Nat)} {r s : List Nat} (h : Sp ws r s) : Sp (w :: ws) (w ++ r) s := ⟨[], r, rfl, Bk.nil, h⟩
theorem sp_c {ws : List (List Nat)} {r s : List Nat} (h : Sp ws r s) : Sp ([44] :: ws) ([44] ++ ([32] ++ r)) s := sp_w (Sp.bl (b := [32]) (by intro c hc; simp at hc; exact hc) h)
def SpZ (tk : List (List Nat)) (z : Str) : Prop := ∀ s, Sp tk (sg z ++ s) s
theorem SpZ.one {z : Str} : SpZ [sg z] z := fun _ => sp_w Sp.refl
theorem spz1 {w z : Str} {t : List (List Nat)} (h : SpZ t z) : SpZ (sg w :: [40] :: (t ++ [[41]])) (w ++ "(" ++ Txt.join ", " [z] ++ ")") := fun s => by
  rw [sg_many]
  exact sp_w (sp_w ((h _).app (sp_w Sp.refl)))
theorem spz2 {w z y : Str} {t u : List (List Nat)} (h : SpZ t z) (k : SpZ u y) : SpZ (sg w :: [40] :: (t ++ [44] :: (u ++ [[41]]))) (w ++ "(" ++ Txt.join ", " [z, y] ++ ")") := fun s => by
  rw [sg_many]
  simp only [joinC, List.append_assoc]
  exact sp_w (sp_w ((h _).app (sp_c ((k _).app (sp_w Sp.refl)))))
theorem spz3 {w z y x : Str} {t u v : List (List Nat)} (h : SpZ t z) (k : SpZ u y) (l : SpZ v x) : SpZ (sg w :: [40] :: (t ++ [44] :: (u ++ [44] :: (v ++ [[41]])))) (w ++ "(" ++ Txt.join ", " [z, y, x] ++ ")") := fun s => by
  rw [sg_many]
  simp only [joinC, List.append_assoc]
  exact sp_w (sp_w ((h _).app (sp_c ((k _).app (sp_c ((l _).app (sp_w Sp.refl)))))))
theorem spz4 {w z y x q : Str} {t u v i : List (List Nat)} (h : SpZ t z) (k : SpZ u y) (l : SpZ v x) (j : SpZ i q) : SpZ (sg w :: [40] :: (t ++ [44] :: (u ++ [44] :: (v ++ [44] :: (i ++ [[41]]))))) (w ++ "(" ++ Txt.join ", " [z, y, x, q] ++ ")") := fun s => by
  rw [sg_many]
  simp only [joinC, List.append_assoc]
  exact sp_w (sp_w ((h _).app (sp_c ((k _).app (sp_c ((l _).app (sp_c ((j _).app (sp_w Sp.refl)))))))))
theorem WnP.strZ {n : Nat} {x z : Str} (h : WnP n (.str x) z) : SpZ [sg x] z := by cases h; exact SpZ.one
theorem WnP.intZ {n : Nat} {i : Int} {z : Str} (h : WnP n (.int i) z) : SpZ [numS i] z := by cases h; exact SpZ.one
theorem WnP.tupZ {n : Nat} {ds : List D} {z : Str} (h : WnP n (.tup ds) z) : Wn n (.tup ds) z := by cases h; assumption
theorem Told.wz {t : Told} {n : Nat} {z : Str} (h : WnP n t.d z) : Wn n t.d z := by obtain ⟨ds, e⟩ := t.shape; rw [e] at h ⊢; exact h.tupZ
theorem Asked.wz {t : Asked} {n : Nat} {z : Str} (h : WnP n t.d z) : Wn n t.d z := by obtain ⟨ds, e⟩ := t.shape; rw [e] at h ⊢; exact h.tupZ
theorem Con.wz {t : Con} {n : Nat} {z : Str} (h : WnP n t.d z) : Wn n t.d z := by obtain ⟨ds, e⟩ := t.shape; rw [e] at h ⊢; exact h.tupZ
theorem Wn.p1 {n : Nat} {w : Str} {a : D} {z : Str} (h : Wn n (.tup [.str w, a]) z) (h1 : w ≠ "num") (h2 : w ≠ "read") : ∃ k z1, WnP k a z1 ∧ z = w ++ "(" ++ Txt.join ", " [z1] ++ ")" := by
  cases h with
  | num => exact (h1 rfl).elim
  | read => exact (h2 rfl).elim
  | many _ _ h => cases h with | cons h t => cases t; exact ⟨_, _, h, rfl⟩
theorem Wn.p2 {n : Nat} {w : Str} {a b : D} {z : Str} (h : Wn n (.tup [.str w, a, b]) z) : ∃ k z1 z2, WnP k a z1 ∧ WnP k b z2 ∧ z = w ++ "(" ++ Txt.join ", " [z1, z2] ++ ")" := by
  cases h with
  | many _ _ h => cases h with | cons h t => cases t with | cons h2 t => cases t; exact ⟨_, _, _, h, h2, rfl⟩
theorem Wn.p3 {n : Nat} {w : Str} {a b c : D} {z : Str} (h : Wn n (.tup [.str w, a, b, c]) z) : ∃ k z1 z2 z3, WnP k a z1 ∧ WnP k b z2 ∧ WnP k c z3 ∧ z = w ++ "(" ++ Txt.join ", " [z1, z2, z3] ++ ")" := by
  cases h with
  | many _ _ h => cases h with | cons h t => cases t with | cons h2 t => cases t with | cons h3 t => cases t; exact ⟨_, _, _, _, h, h2, h3, rfl⟩
theorem Wn.p4 {n : Nat} {w : Str} {a b c d : D} {z : Str} (h : Wn n (.tup [.str w, a, b, c, d]) z) : ∃ k z1 z2 z3 z4, WnP k a z1 ∧ WnP k b z2 ∧ WnP k c z3 ∧ WnP k d z4 ∧ z = w ++ "(" ++ Txt.join ", " [z1, z2, z3, z4] ++ ")" := by
  cases h with
  | many _ _ h => cases h with | cons h t => cases t with | cons h2 t => cases t with | cons h3 t => cases t with | cons h4 t => cases t; exact ⟨_, _, _, _, _, h, h2, h3, h4, rfl⟩
theorem Told.spz : ∀ {t : Told} {n : Nat} {z : Str}, Wn n t.d z → SpZ t.tk z
  | .num i, n, z, h => by
    have h : Wn n (.tup [.str "num", .int i]) z := h
    cases h with
    | num => exact SpZ.one
    | many h1 => exact (h1 rfl).elim
  | .read x, n, z, h => by
    have h : Wn n (.tup [.str "read", .str x]) z := h
    cases h with
    | read => exact SpZ.one
    | many _ h1 => exact (h1 rfl).elim
  | .bin j a b, n, z, h => by
    obtain ⟨k, z1, z2, h1, h2, rfl⟩ := Wn.p2 (w := j.w) h
    exact spz2 (Told.spz (Told.wz h1)) (Told.spz (Told.wz h2))
theorem Asked.spz : ∀ {q : Asked} {n : Nat} {z : Str}, Wn n q.d z → SpZ q.tk z
  | .lt a b, n, z, h => by
    obtain ⟨k, z1, z2, h1, h2, rfl⟩ := Wn.p2 h
    exact spz2 (Told.spz (Told.wz h1)) (Told.spz (Told.wz h2))
  | .no a, n, z, h => by
    obtain ⟨k, z1, h1, rfl⟩ := Wn.p1 h (by decide +kernel) (by decide +kernel)
    exact spz1 (Asked.spz (Asked.wz h1))
  | .all a b, n, z, h => by
    obtain ⟨k, z1, z2, h1, h2, rfl⟩ := Wn.p2 h
    exact spz2 (Asked.spz (Asked.wz h1)) (Asked.spz (Asked.wz h2))
  | .any a b, n, z, h => by
    obtain ⟨k, z1, z2, h1, h2, rfl⟩ := Wn.p2 h
    exact spz2 (Asked.spz (Asked.wz h1)) (Asked.spz (Asked.wz h2))
theorem Con.spz : ∀ {c : Con} {n : Nat} {z : Str}, Wn n c.d z → SpZ c.tk z
  | .no, n, z, h => by
    have h : Wn n (.tup [.str "none"]) z := h
    cases h; exact SpZ.one
  | .give a b g t, n, z, h => by
    obtain ⟨k, z1, z2, z3, z4, h1, h2, h3, h4, rfl⟩ := Wn.p4 h
    exact spz4 h1.strZ h2.strZ h3.strZ (Told.spz (Told.wz h4))
  | .both x y, n, z, h => by
    obtain ⟨k, z1, z2, h1, h2, rfl⟩ := Wn.p2 h
    exact spz2 (Con.spz (Con.wz h1)) (Con.spz (Con.wz h2))
  | .turned a b x, n, z, h => by
    obtain ⟨k, z1, z2, z3, h1, h2, h3, rfl⟩ := Wn.p3 h
    exact spz3 h1.strZ h2.strZ (Con.spz (Con.wz h3))
  | .later u x, n, z, h => by
    obtain ⟨k, z1, z2, h1, h2, rfl⟩ := Wn.p2 h
    exact spz2 h1.intZ (Con.spz (Con.wz h2))
  | .often u v x, n, z, h => by
    obtain ⟨k, z1, z2, z3, h1, h2, h3, rfl⟩ := Wn.p3 h
    exact spz3 h1.intZ h2.intZ (Con.spz (Con.wz h3))
  | .ite q x y, n, z, h => by
    obtain ⟨k, z1, z2, z3, h1, h2, h3, rfl⟩ := Wn.p3 h
    exact spz3 (Asked.spz (Asked.wz h1)) (Con.spz (Con.wz h2)) (Con.spz (Con.wz h3))
  | .when q x, n, z, h => by
    obtain ⟨k, z1, z2, h1, h2, rfl⟩ := Wn.p2 h
    exact spz2 (Asked.spz (Asked.wz h1)) (Con.spz (Con.wz h2))
  | .till q x, n, z, h => by
    obtain ⟨k, z1, z2, h1, h2, rfl⟩ := Wn.p2 h
    exact spz2 (Asked.spz (Asked.wz h1)) (Con.spz (Con.wz h2))
theorem read_back {c : Con} {n : Nat} {z : Str} (h : Wn n c.d z) (hl : z.length ≤ 4000) (ok : okCon 12 c.d = true) : readP (sg z) = some c.d := by
  have h1 := Con.spz h []
  rw [List.append_nil] at h1
  exact readP_cp (by show z.cps.toList.length ≤ 4000; rw [Array.length_toList]; exact hl) ok h1 rfl (fun _ e => nomatch e)
theorem sg_len {z : Str} : (sg z).length = z.length := by show z.cps.toList.length = z.cps.size; simp
theorem len1 {w z : Str} : (w ++ "(" ++ Txt.join ", " [z] ++ ")").length = w.length + z.length + 2 := by
  have h := congrArg List.length (sg_many (w := w) (zs := [z]) (s := []))
  simp only [joinC, List.length_append, List.length_cons, List.length_nil, sg_len] at h
  omega
theorem len2 {w z y : Str} : (w ++ "(" ++ Txt.join ", " [z, y] ++ ")").length = w.length + z.length + y.length + 4 := by
  have h := congrArg List.length (sg_many (w := w) (zs := [z, y]) (s := []))
  simp only [joinC, List.length_append, List.length_cons, List.length_nil, sg_len] at h
  omega
theorem len3 {w z y x : Str} : (w ++ "(" ++ Txt.join ", " [z, y, x] ++ ")").length = w.length + z.length + y.length + x.length + 6 := by
  have h := congrArg List.length (sg_many (w := w) (zs := [z, y, x]) (s := []))
  simp only [joinC, List.length_append, List.length_cons, List.length_nil, sg_len] at h
  omega
theorem len4 {w z y x q : Str} : (w ++ "(" ++ Txt.join ", " [z, y, x, q] ++ ")").length = w.length + z.length + y.length + x.length + q.length + 8 := by
  have h := congrArg List.length (sg_many (w := w) (zs := [z, y, x, q]) (s := []))
  simp only [joinC, List.length_append, List.length_cons, List.length_nil, sg_len] at h
  omega
theorem numt_len {i : Int} (h : i.natAbs < 10 ^ 12) : (Str.ofString (toString i)).length ≤ 14 := by
  have := PySem.int_text_length_le10 (a := i) (k := 12) (by decide) (by omega)
  rw [PySem.ofString_length]
  omega
theorem hour_len {i : Int} (h0 : 0 ≤ i) (h : i ≤ 99) : (Str.ofString (toString i)).length ≤ 14 := numt_len (by omega)
theorem WnP.strL {n : Nat} {x z : Str} (h : WnP n (.str x) z) : z = x := by cases h; rfl
theorem WnP.intL {n : Nat} {i : Int} {z : Str} (h : WnP n (.int i) z) : z = Str.ofString (toString i) := by cases h; rfl
theorem jn_len (j : Jn) : j.w.length ≤ 5 := by cases j <;> decide +kernel
theorem Told.tlen {nms : List Str} (hn : ∀ x ∈ nms, x.length ≤ 8) : ∀ (t : Told) (k n : Nat) (z : Str), t.of nms → t.dp ≤ k → Wn n t.d z → z.length + 9 ≤ 23 * 2 ^ k
  | .num i, k, n, z, h, _, w => by
    have w : Wn n (.tup [.str "num", .int i]) z := w
    have hp : 1 ≤ 2 ^ k := Nat.pow_pos (by decide)
    cases w with
    | num => have := numt_len (i := i) h; omega
    | many h1 => exact (h1 rfl).elim
  | .read x, k, n, z, h, _, w => by
    have w : Wn n (.tup [.str "read", .str x]) z := w
    have hp : 1 ≤ 2 ^ k := Nat.pow_pos (by decide)
    cases w with
    | read => have := hn x h; omega
    | many _ h1 => exact (h1 rfl).elim
  | .bin j a b, 0, n, z, h, hd, w => by have hd : max a.dp b.dp + 1 ≤ 0 := hd; omega
  | .bin j a b, k + 1, n, z, h, hd, w => by
    have hd : max a.dp b.dp + 1 ≤ k + 1 := hd
    obtain ⟨_, z1, z2, h1, h2, rfl⟩ := Wn.p2 (w := j.w) w
    have e1 := Told.tlen hn a k _ z1 h.1 (by omega) (Told.wz h1)
    have e2 := Told.tlen hn b k _ z2 h.2 (by omega) (Told.wz h2)
    have := jn_len j
    rw [len2, Nat.pow_succ]
    omega
theorem Asked.tlen {nms : List Str} (hn : ∀ x ∈ nms, x.length ≤ 8) : ∀ (q : Asked) (k n : Nat) (z : Str), q.of nms → q.dp ≤ k → q.td ≤ 1 → Wn n q.d z → z.length + 7 ≤ 90 * 2 ^ k
  | .lt a b, k, n, z, h, _, ht, w => by
    have ht : max a.dp b.dp ≤ 1 := ht
    have hp : 1 ≤ 2 ^ k := Nat.pow_pos (by decide)
    obtain ⟨_, z1, z2, h1, h2, rfl⟩ := Wn.p2 w
    have e1 := Told.tlen hn a 1 _ z1 h.1 (by omega) (Told.wz h1)
    have e2 := Told.tlen hn b 1 _ z2 h.2 (by omega) (Told.wz h2)
    have : ("below" : Str).length = 5 := by decide +kernel
    rw [len2]
    omega
  | .no a, 0, n, z, h, hd, ht, w => by have hd : a.dp + 1 ≤ 0 := hd; omega
  | .all a b, 0, n, z, h, hd, ht, w => by have hd : max a.dp b.dp + 1 ≤ 0 := hd; omega
  | .any a b, 0, n, z, h, hd, ht, w => by have hd : max a.dp b.dp + 1 ≤ 0 := hd; omega
  | .no a, k + 1, n, z, h, hd, ht, w => by
    have hd : a.dp + 1 ≤ k + 1 := hd
    obtain ⟨_, z1, h1, rfl⟩ := Wn.p1 w (by decide +kernel) (by decide +kernel)
    have e1 := Asked.tlen hn a k _ z1 h (by omega) ht (Asked.wz h1)
    have : ("not" : Str).length = 3 := by decide +kernel
    rw [len1, Nat.pow_succ]
    omega
  | .all a b, k + 1, n, z, h, hd, ht, w => by
    have hd : max a.dp b.dp + 1 ≤ k + 1 := hd
    have ht : max a.td b.td ≤ 1 := ht
    obtain ⟨_, z1, z2, h1, h2, rfl⟩ := Wn.p2 w
    have e1 := Asked.tlen hn a k _ z1 h.1 (by omega) (by omega) (Asked.wz h1)
    have e2 := Asked.tlen hn b k _ z2 h.2 (by omega) (by omega) (Asked.wz h2)
    have : ("all" : Str).length = 3 := by decide +kernel
    rw [len2, Nat.pow_succ]
    omega
  | .any a b, k + 1, n, z, h, hd, ht, w => by
    have hd : max a.dp b.dp + 1 ≤ k + 1 := hd
    have ht : max a.td b.td ≤ 1 := ht
    obtain ⟨_, z1, z2, h1, h2, rfl⟩ := Wn.p2 w
    have e1 := Asked.tlen hn a k _ z1 h.1 (by omega) (by omega) (Asked.wz h1)
    have e2 := Asked.tlen hn b k _ z2 h.2 (by omega) (by omega) (Asked.wz h2)
    have : ("any" : Str).length = 3 := by decide +kernel
    rw [len2, Nat.pow_succ]
    omega
theorem Con.tlen {s : Dr} (B : DrB s) {nms : List Str} (hn : ∀ x ∈ nms, x.length ≤ 8) : ∀ (c : Con) (k n : Nat) (z : Str), c.of (wordOf s) nms → c.dp ≤ k → Wn n c.d z → z.length + 361 ≤ 480 * 2 ^ k
  | .no, k, n, z, _, _, w => by
    have w : Wn n (.tup [.str "none"]) z := w
    have hp : 1 ≤ 2 ^ k := Nat.pow_pos (by decide)
    cases w
    have : ("none" : Str).length = 4 := by decide +kernel
    omega
  | .give a b g t, k, n, z, ⟨h1, ⟨l, l0, l1, eg⟩, ht, hd⟩, _, w => by
    have hp : 1 ≤ 2 ^ k := Nat.pow_pos (by decide)
    obtain ⟨_, z1, z2, z3, z4, w1, w2, w3, w4, rfl⟩ := Wn.p4 w
    cases w1.strL; cases w2.strL; cases w3.strL
    have e4 := Told.tlen hn t 2 _ z4 ht (by omega) (Told.wz w4)
    have s1 := (sides_ok B h1).1.2.1
    have s2 := (sides_ok B h1).2.1.2.1
    have s3 := (word_wd B (k := l) (by omega)).2.1
    rw [← eg] at s3
    have : ("give" : Str).length = 4 := by decide +kernel
    rw [len4]
    omega
  | .both x y, 0, n, z, h, hd, w => by have hd : max x.dp y.dp + 1 ≤ 0 := hd; omega
  | .turned a b x, 0, n, z, h, hd, w => by have hd : x.dp + 1 ≤ 0 := hd; omega
  | .later u x, 0, n, z, h, hd, w => by have hd : x.dp + 1 ≤ 0 := hd; omega
  | .often u v x, 0, n, z, h, hd, w => by have hd : x.dp + 1 ≤ 0 := hd; omega
  | .ite q x y, 0, n, z, h, hd, w => by have hd : max x.dp y.dp + 1 ≤ 0 := hd; omega
  | .when q x, 0, n, z, h, hd, w => by have hd : x.dp + 1 ≤ 0 := hd; omega
  | .till q x, 0, n, z, h, hd, w => by have hd : x.dp + 1 ≤ 0 := hd; omega
  | .both x y, k + 1, n, z, h, hd, w => by
    have hd : max x.dp y.dp + 1 ≤ k + 1 := hd
    obtain ⟨_, z1, z2, w1, w2, rfl⟩ := Wn.p2 w
    have e1 := Con.tlen B hn x k _ z1 h.1 (by omega) (Con.wz w1)
    have e2 := Con.tlen B hn y k _ z2 h.2 (by omega) (Con.wz w2)
    have : ("both" : Str).length = 4 := by decide +kernel
    rw [len2, Nat.pow_succ]
    omega
  | .turned a b x, k + 1, n, z, h, hd, w => by
    have hd : x.dp + 1 ≤ k + 1 := hd
    obtain ⟨_, z1, z2, z3, w1, w2, w3, rfl⟩ := Wn.p3 w
    cases w1.strL; cases w2.strL
    have e1 := Con.tlen B hn x k _ z3 h.2 (by omega) (Con.wz w3)
    have s1 := (sides_ok B h.1).1.2.1
    have s2 := (sides_ok B h.1).2.1.2.1
    have : ("turned" : Str).length = 6 := by decide +kernel
    rw [len3, Nat.pow_succ]
    omega
  | .later u x, k + 1, n, z, h, hd, w => by
    have hd : x.dp + 1 ≤ k + 1 := hd
    obtain ⟨_, z1, z2, w1, w2, rfl⟩ := Wn.p2 w
    cases w1.intL
    have e1 := Con.tlen B hn x k _ z2 h.2 (by omega) (Con.wz w2)
    have s1 := hour_len h.1.1 h.1.2
    have : ("later" : Str).length = 5 := by decide +kernel
    rw [len2, Nat.pow_succ]
    omega
  | .often u v x, k + 1, n, z, h, hd, w => by
    have hd : x.dp + 1 ≤ k + 1 := hd
    obtain ⟨_, z1, z2, z3, w1, w2, w3, rfl⟩ := Wn.p3 w
    cases w1.intL; cases w2.intL
    obtain ⟨⟨u0, u1, v0, v1⟩, hx⟩ := h
    have e1 := Con.tlen B hn x k _ z3 hx (by omega) (Con.wz w3)
    have s1 := hour_len (i := u) (by omega) (by omega)
    have s2 := hour_len (i := v) (by omega) (by omega)
    have : ("often" : Str).length = 5 := by decide +kernel
    rw [len3, Nat.pow_succ]
    omega
  | .ite q x y, k + 1, n, z, h, hd, w => by
    have hd : max x.dp y.dp + 1 ≤ k + 1 := hd
    obtain ⟨_, z1, z2, z3, w1, w2, w3, rfl⟩ := Wn.p3 w
    have e0 := Asked.tlen hn q 2 _ z1 h.1.1 h.1.2.1 h.1.2.2 (Asked.wz w1)
    have e1 := Con.tlen B hn x k _ z2 h.2.1 (by omega) (Con.wz w2)
    have e2 := Con.tlen B hn y k _ z3 h.2.2 (by omega) (Con.wz w3)
    have : ("if" : Str).length = 2 := by decide +kernel
    rw [len3, Nat.pow_succ]
    omega
  | .when q x, k + 1, n, z, h, hd, w => by
    have hd : x.dp + 1 ≤ k + 1 := hd
    obtain ⟨_, z1, z2, w1, w2, rfl⟩ := Wn.p2 w
    have e0 := Asked.tlen hn q 2 _ z1 h.1.1 h.1.2.1 h.1.2.2 (Asked.wz w1)
    have e1 := Con.tlen B hn x k _ z2 h.2 (by omega) (Con.wz w2)
    have : ("when" : Str).length = 4 := by decide +kernel
    rw [len2, Nat.pow_succ]
    omega
  | .till q x, k + 1, n, z, h, hd, w => by
    have hd : x.dp + 1 ≤ k + 1 := hd
    obtain ⟨_, z1, z2, w1, w2, rfl⟩ := Wn.p2 w
    have e0 := Asked.tlen hn q 2 _ z1 h.1.1 h.1.2.1 h.1.2.2 (Asked.wz w1)
    have e1 := Con.tlen B hn x k _ z2 h.2 (by omega) (Con.wz w2)
    have : ("until" : Str).length = 5 := by decide +kernel
    rw [len2, Nat.pow_succ]
    omega
theorem Con.chlen {s : Dr} (B : DrB s) {nms : List Str} (hn : ∀ x ∈ nms, x.length ≤ 8) : ∀ (c : Con) (n : Nat) (z : Str), c.of (wordOf s) nms → c.ch → Wn n c.d z → z.length ≤ 80 + 100 * c.dp
  | .give a b g t, n, z, ⟨h1, ⟨l, l0, l1, eg⟩, ht, hd⟩, hc, w => by
    have hc : t.dp ≤ 1 := hc
    obtain ⟨_, z1, z2, z3, z4, w1, w2, w3, w4, rfl⟩ := Wn.p4 w
    cases w1.strL; cases w2.strL; cases w3.strL
    have e4 := Told.tlen hn t 1 _ z4 ht hc (Told.wz w4)
    have s1 := (sides_ok B h1).1.2.1
    have s2 := (sides_ok B h1).2.1.2.1
    have s3 := (word_wd B (k := l) (by omega)).2.1
    rw [← eg] at s3
    have : ("give" : Str).length = 4 := by decide +kernel
    rw [len4]
    omega
  | .turned a b x, n, z, h, hc, w => by
    obtain ⟨_, z1, z2, z3, w1, w2, w3, rfl⟩ := Wn.p3 w
    cases w1.strL; cases w2.strL
    have e1 := Con.chlen B hn x _ z3 h.2 hc (Con.wz w3)
    have s1 := (sides_ok B h.1).1.2.1
    have s2 := (sides_ok B h.1).2.1.2.1
    have : ("turned" : Str).length = 6 := by decide +kernel
    rw [len3]
    show _ ≤ 80 + 100 * (x.dp + 1)
    omega
  | .later u x, n, z, h, hc, w => by
    obtain ⟨_, z1, z2, w1, w2, rfl⟩ := Wn.p2 w
    cases w1.intL
    have e1 := Con.chlen B hn x _ z2 h.2 hc (Con.wz w2)
    have s1 := hour_len h.1.1 h.1.2
    have : ("later" : Str).length = 5 := by decide +kernel
    rw [len2]
    show _ ≤ 80 + 100 * (x.dp + 1)
    omega
  | .often u v x, n, z, h, hc, w => by
    obtain ⟨_, z1, z2, z3, w1, w2, w3, rfl⟩ := Wn.p3 w
    cases w1.intL; cases w2.intL
    obtain ⟨⟨u0, u1, v0, v1⟩, hx⟩ := h
    have e1 := Con.chlen B hn x _ z3 hx hc.2 (Con.wz w3)
    have s1 := hour_len (i := u) (by omega) (by omega)
    have s2 := hour_len (i := v) (by omega) (by omega)
    have : ("often" : Str).length = 5 := by decide +kernel
    rw [len3]
    show _ ≤ 80 + 100 * (x.dp + 1)
    omega
  | .when q x, n, z, h, hc, w => by
    obtain ⟨_, z1, z2, w1, w2, rfl⟩ := Wn.p2 w
    have e0 := Asked.tlen hn q 0 _ z1 h.1.1 (by have := hc.1; omega) h.1.2.2 (Asked.wz w1)
    have e1 := Con.chlen B hn x _ z2 h.2 hc.2 (Con.wz w2)
    have : ("when" : Str).length = 4 := by decide +kernel
    rw [len2]
    show _ ≤ 80 + 100 * (x.dp + 1)
    omega
  | .till q x, n, z, h, hc, w => by
    obtain ⟨_, z1, z2, w1, w2, rfl⟩ := Wn.p2 w
    have e0 := Asked.tlen hn q 0 _ z1 h.1.1 (by have := hc.1; omega) h.1.2.2 (Asked.wz w1)
    have e1 := Con.chlen B hn x _ z2 h.2 hc.2 (Con.wz w2)
    have : ("until" : Str).length = 5 := by decide +kernel
    rw [len2]
    show _ ≤ 80 + 100 * (x.dp + 1)
    omega
  | .no, _, _, _, hc, _ => hc.elim
  | .both _ _, _, _, _, hc, _ => hc.elim
  | .ite _ _ _, _, _, _, hc, _ => hc.elim
theorem Con.dwlen {s : Dr} (B : DrB s) {nms : List Str} (hn : ∀ x ∈ nms, Wd x) {c : Con} {n : Nat} {z : Str} (h : c.of (wordOf s) nms) (hd : c.dw) (w : Wn n c.d z) : z.length ≤ 3500 := by
  have hn' : ∀ x ∈ nms, x.length ≤ 8 := fun x hx => (hn x hx).2.1
  rcases hd with hd | ⟨hd, hc⟩
  · have := Con.tlen B hn' c 3 n z h hd w
    omega
  · have := Con.chlen B hn' c n z h hc w
    omega
def wc (c : Nat) : Nat := if c = 32 then 0 else if c = 44 then 2 else 1
def wgt (l : List Nat) : Nat := (l.map wc).sum
def Wgt (tk : List (List Nat)) : Nat := (tk.map wgt).sum
theorem wgt_cons {c : Nat} {l : List Nat} : wgt (c :: l) = wc c + wgt l := by simp [wgt]
theorem wgt_app {a b : List Nat} : wgt (a ++ b) = wgt a + wgt b := by simp [wgt]
theorem Wgt_cons {w : List Nat} {tk : List (List Nat)} : Wgt (w :: tk) = wgt w + Wgt tk := by simp [Wgt]
theorem Wgt_nil : Wgt [] = 0 := rfl
theorem Wgt_app {a b : List (List Nat)} : Wgt (a ++ b) = Wgt a + Wgt b := by simp [Wgt]
theorem wc_le (c : Nat) : wc c ≤ 2 := by unfold wc; split <;> (try split) <;> omega
theorem wgt_le : ∀ l : List Nat, wgt l ≤ 2 * l.length
  | [] => by simp [wgt]
  | c :: l => by rw [wgt_cons, List.length_cons]; have := wc_le c; have := wgt_le l; omega
theorem wgt_bk : ∀ {b : List Nat}, Bk b → wgt b = 0
  | [], _ => rfl
  | c :: b, h => by
    rw [wgt_cons, wgt_bk (fun x hx => h x (.tail _ hx))]
    have : c = 32 := h c (.head _)
    subst this; rfl
theorem wgt_plain : ∀ {l : List Nat}, (∀ c ∈ l, c ≠ 32 ∧ c ≠ 44) → wgt l = l.length
  | [], _ => rfl
  | c :: l, h => by
    rw [wgt_cons, wgt_plain (fun x hx => h x (.tail _ hx)), List.length_cons]
    have := h c (.head _)
    have e : wc c = 1 := by unfold wc; rw [if_neg this.1, if_neg this.2]
    omega
theorem Sp.wgt_eq : ∀ {tk : List (List Nat)} {r s : List Nat}, Sp tk r s → wgt r = Wgt tk + wgt s
  | [], _, _, ⟨b, e, h⟩ => by rw [e, wgt_app, wgt_bk h, Wgt_nil]
  | w :: ws, _, _, ⟨b, r1, e, h, t⟩ => by rw [e, wgt_app, wgt_app, wgt_bk h, Sp.wgt_eq t, Wgt_cons]; omega
theorem skip_bk0 : ∀ {s : List Nat}, skip s = [] → Bk s
  | [], _ => Bk.nil
  | c :: s, h => by
    by_cases e : c = 32
    · subst e
      intro x hx
      rcases List.mem_cons.mp hx with rfl | hx
      · rfl
      · exact skip_bk0 (s := s) h x hx
    · rw [skip_c e] at h; cases h
theorem wgt_word {x : Str} (h : Wl x) : wgt (sg x) = x.length := by
  rw [wgt_plain fun c hc => by have := h.2.2 c hc; omega]
  show x.cps.toList.length = x.cps.size
  rw [Array.length_toList]
theorem numS_plain (n : Int) : ∀ c ∈ numS n, (48 ≤ c ∧ c ≤ 57) ∨ c = 45 := by
  have dig : ∀ k : Nat, ∀ c ∈ TL.numL k, 48 ≤ c ∧ c ≤ 57 := fun k c hc => TL.numL_digits k c hc
  by_cases h : 0 ≤ n
  · obtain ⟨k, rfl⟩ : ∃ k : Nat, n = k := ⟨n.toNat, by omega⟩
    rw [numS_nat]
    exact fun c hc => .inl (dig k c hc)
  · obtain ⟨k, hk, rfl⟩ : ∃ k : Nat, 0 < k ∧ n = 0 - (k : Int) := ⟨n.natAbs, by omega, by omega⟩
    rw [numS_neg hk]
    intro c hc
    rcases List.mem_cons.mp hc with rfl | hc
    · exact .inr rfl
    · exact .inl (dig k c hc)
theorem wgt_num (n : Int) : wgt (numS n) = (Str.ofString (toString n)).length := by
  rw [wgt_plain fun c hc => by have := numS_plain n c hc; omega, ← sg_len]; rfl
theorem many_lenE {w : Str} {zs : List Str} : (w ++ "(" ++ Txt.join ", " zs ++ ")").length = w.length + 2 + (joinC zs).length := by
  have h := congrArg List.length (sg_many (w := w) (zs := zs) (s := []))
  simp only [List.append_nil, List.length_append, List.length_cons, List.length_nil] at h
  rw [sg_len, sg_len] at h
  omega
theorem join1 {z : Str} : (joinC [z]).length = z.length := sg_len
theorem join2 {z y : Str} : (joinC [z, y]).length = z.length + 2 + y.length := by
  show (sg z ++ ([44] ++ ([32] ++ sg y))).length = _
  simp only [List.length_append, List.length_cons, List.length_nil, sg_len]; omega
theorem join3 {z y x : Str} : (joinC [z, y, x]).length = z.length + 2 + y.length + 2 + x.length := by
  show (sg z ++ ([44] ++ ([32] ++ (sg y ++ ([44] ++ ([32] ++ sg x)))))).length = _
  simp only [List.length_append, List.length_cons, List.length_nil, sg_len]; omega
theorem join4 {z y x q : Str} : (joinC [z, y, x, q]).length = z.length + 2 + y.length + 2 + x.length + 2 + q.length := by
  show (sg z ++ ([44] ++ ([32] ++ (sg y ++ ([44] ++ ([32] ++ (sg x ++ ([44] ++ ([32] ++ sg q))))))))).length = _
  simp only [List.length_append, List.length_cons, List.length_nil, sg_len]; omega
theorem w_par : wgt [40] = 1 ∧ wgt [41] = 1 ∧ wgt [44] = 2 := ⟨rfl, rfl, rfl⟩
theorem wS_w (s : String) (h : (decide (1 ≤ (sg (Str.ofString s)).length) && decide ((sg (Str.ofString s)).length ≤ 8) && (sg (Str.ofString s)).all fun c => decide (97 ≤ c) && decide (c ≤ 122)) = true) : wgt (wS s) = (Str.ofString s).length := wgt_word (word_wl s h)
local macro_rules | `(tactic| wtm_at "wsum") => `(tactic| (simp only [Wgt_cons, Wgt_app, Wgt_nil, List.map_cons, List.map_nil, List.sum_cons, List.sum_nil, many_lenE, join1, join2, join3, join4, w_par.1, w_par.2.1, w_par.2.2, wgt_num] at *; omega))
theorem Told.wrw : ∀ (t : Told) (n : Nat), t.rwd → t.dp ≤ n → Wgt t.tk ≤ 8000 → ∃ z, Wn n t.d z ∧ z.length = Wgt t.tk
  | .num i, n, h, _, _ => ⟨_, .num (by have : i.natAbs < 10 ^ 13 := h; omega), by show _ = Wgt [numS i]; rw [Wgt_cons, Wgt_nil, wgt_num]; rfl⟩
  | .read x, n, h, _, _ => ⟨_, .read, by show _ = Wgt [sg x]; rw [Wgt_cons, Wgt_nil, wgt_word h]; rfl⟩
  | .bin j a b, n, h, hd, hw => by
    have hd' : max a.dp b.dp + 1 ≤ n := hd
    obtain ⟨n, rfl⟩ : ∃ k, n = k + 1 := ⟨n - 1, by omega⟩
    have ej := wgt_word (jn_wl j)
    have e : Wgt (Told.bin j a b).tk = j.w.length + 1 + Wgt a.tk + 2 + Wgt b.tk + 1 := by
      show Wgt (sg j.w :: [40] :: (a.tk ++ [44] :: (b.tk ++ [[41]]))) = _
      simp only [Wgt_cons, Wgt_app, Wgt_nil, w_par.1, w_par.2.1, w_par.2.2, ej]; omega
    obtain ⟨z1, w1, l1⟩ := Told.wrw a n h.1 (by omega) (by omega)
    obtain ⟨z2, w2, l2⟩ := Told.wrw b n h.2 (by omega) (by omega)
    obtain ⟨q1, q2, q3⟩ := nw (w := j.w) (by cases j <;> decide)
    refine ⟨_, .many q1 q2 (.cons (Told.pc w1) (.cons (Told.pc w2) .nil)) (by simp) q3 ?_, ?_⟩
    · simp only [List.map_cons, List.map_nil, List.sum_cons, List.sum_nil]; omega
    · rw [many_lenE, join2, e]; omega
theorem Asked.wrw : ∀ (t : Asked) (n : Nat), t.rwd → t.bd ≤ n → Wgt t.tk ≤ 8000 → ∃ z, Wn n t.d z ∧ z.length = Wgt t.tk
  | .lt a b, n, h, hd, hw => by
    have hd' : max a.dp b.dp + 1 ≤ n := hd
    obtain ⟨n, rfl⟩ : ∃ k, n = k + 1 := ⟨n - 1, by omega⟩
    have ej := wS_w "below" (by decide +kernel)
    have e : Wgt (Asked.lt a b).tk = (Str.ofString "below").length + 1 + Wgt a.tk + 2 + Wgt b.tk + 1 := by
      show Wgt (wS "below" :: [40] :: (a.tk ++ [44] :: (b.tk ++ [[41]]))) = _
      simp only [Wgt_cons, Wgt_app, Wgt_nil, w_par.1, w_par.2.1, w_par.2.2, ej]; omega
    obtain ⟨z1, w1, l1⟩ := Told.wrw a n h.1 (by omega) (by omega)
    obtain ⟨z2, w2, l2⟩ := Told.wrw b n h.2 (by omega) (by omega)
    obtain ⟨q1, q2, q3⟩ := nw (w := "below") (by decide)
    refine ⟨_, .many q1 q2 (.cons (Told.pc w1) (.cons (Told.pc w2) .nil)) (by simp) q3 ?_, ?_⟩
    · simp only [List.map_cons, List.map_nil, List.sum_cons, List.sum_nil]; omega
    · rw [many_lenE, join2, e]; omega
  | .no a, n, h, hd, hw => by
    have hd' : a.bd + 1 ≤ n := hd
    obtain ⟨n, rfl⟩ : ∃ k, n = k + 1 := ⟨n - 1, by omega⟩
    have ej := wS_w "not" (by decide +kernel)
    have e : Wgt (Asked.no a).tk = (Str.ofString "not").length + 1 + Wgt a.tk + 1 := by
      show Wgt (wS "not" :: [40] :: (a.tk ++ [[41]])) = _
      simp only [Wgt_cons, Wgt_app, Wgt_nil, w_par.1, w_par.2.1, w_par.2.2, ej]; omega
    obtain ⟨z1, w1, l1⟩ := Asked.wrw a n h (by omega) (by omega)
    obtain ⟨q1, q2, q3⟩ := nw (w := "not") (by decide)
    refine ⟨_, .many q1 q2 (.cons (Asked.pc w1) .nil) (by simp) q3 ?_, ?_⟩
    · simp only [List.map_cons, List.map_nil, List.sum_cons, List.sum_nil]; omega
    · rw [many_lenE, join1, e]; omega
  | .all a b, n, h, hd, hw => by
    have hd' : max a.bd b.bd + 1 ≤ n := hd
    obtain ⟨n, rfl⟩ : ∃ k, n = k + 1 := ⟨n - 1, by omega⟩
    have ej := wS_w "all" (by decide +kernel)
    have e : Wgt (Asked.all a b).tk = (Str.ofString "all").length + 1 + Wgt a.tk + 2 + Wgt b.tk + 1 := by
      show Wgt (wS "all" :: [40] :: (a.tk ++ [44] :: (b.tk ++ [[41]]))) = _
      simp only [Wgt_cons, Wgt_app, Wgt_nil, w_par.1, w_par.2.1, w_par.2.2, ej]; omega
    obtain ⟨z1, w1, l1⟩ := Asked.wrw a n h.1 (by omega) (by omega)
    obtain ⟨z2, w2, l2⟩ := Asked.wrw b n h.2 (by omega) (by omega)
    obtain ⟨q1, q2, q3⟩ := nw (w := "all") (by decide)
    refine ⟨_, .many q1 q2 (.cons (Asked.pc w1) (.cons (Asked.pc w2) .nil)) (by simp) q3 ?_, ?_⟩
    · simp only [List.map_cons, List.map_nil, List.sum_cons, List.sum_nil]; omega
    · rw [many_lenE, join2, e]; omega
  | .any a b, n, h, hd, hw => by
    have hd' : max a.bd b.bd + 1 ≤ n := hd
    obtain ⟨n, rfl⟩ : ∃ k, n = k + 1 := ⟨n - 1, by omega⟩
    have ej := wS_w "any" (by decide +kernel)
    have e : Wgt (Asked.any a b).tk = (Str.ofString "any").length + 1 + Wgt a.tk + 2 + Wgt b.tk + 1 := by
      show Wgt (wS "any" :: [40] :: (a.tk ++ [44] :: (b.tk ++ [[41]]))) = _
      simp only [Wgt_cons, Wgt_app, Wgt_nil, w_par.1, w_par.2.1, w_par.2.2, ej]; omega
    obtain ⟨z1, w1, l1⟩ := Asked.wrw a n h.1 (by omega) (by omega)
    obtain ⟨z2, w2, l2⟩ := Asked.wrw b n h.2 (by omega) (by omega)
    obtain ⟨q1, q2, q3⟩ := nw (w := "any") (by decide)
    refine ⟨_, .many q1 q2 (.cons (Asked.pc w1) (.cons (Asked.pc w2) .nil)) (by simp) q3 ?_, ?_⟩
    · simp only [List.map_cons, List.map_nil, List.sum_cons, List.sum_nil]; omega
    · rw [many_lenE, join2, e]; omega
theorem Con.wrw : ∀ (c : Con) (n : Nat), c.rwd → c.bd ≤ n → Wgt c.tk ≤ 8000 → ∃ z, Wn n c.d z ∧ z.length = Wgt c.tk
  | .no, n, h, _, _ => by
    obtain ⟨q1, q2, q3⟩ := nw (w := "none") (by decide)
    exact ⟨_, .one q1 q2, by show _ = Wgt [wS "none"]; rw [Wgt_cons, Wgt_nil, wS_w "none" (by decide +kernel)]; rfl⟩
  | .give a b g t, n, h, hd, hw => by
    have hd' : t.dp + 1 ≤ n := hd
    obtain ⟨n, rfl⟩ : ∃ k, n = k + 1 := ⟨n - 1, by omega⟩
    have ej := wS_w "give" (by decide +kernel)
    obtain ⟨h0, h1, h2, h3⟩ := h
    have e_a := wgt_word h0
    have e_b := wgt_word h1
    have e_g := wgt_word h2
    have e : Wgt (Con.give a b g t).tk = (Str.ofString "give").length + 1 + a.length + 2 + b.length + 2 + g.length + 2 + Wgt t.tk + 1 := by
      show Wgt (wS "give" :: [40] :: sg a :: [44] :: sg b :: [44] :: sg g :: [44] :: (t.tk ++ [[41]])) = _
      simp only [Wgt_cons, Wgt_app, Wgt_nil, w_par.1, w_par.2.1, w_par.2.2, ej, e_a, e_b, e_g]; omega
    obtain ⟨z1, w1, l1⟩ := Told.wrw t n h3 (by omega) (by omega)
    obtain ⟨q1, q2, q3⟩ := nw (w := "give") (by decide)
    refine ⟨_, .many q1 q2 (.cons .str (.cons .str (.cons .str (.cons (Told.pc w1) .nil)))) (by simp) q3 ?_, ?_⟩
    · simp only [List.map_cons, List.map_nil, List.sum_cons, List.sum_nil]; omega
    · rw [many_lenE, join4, e]; omega
  | .both x y, n, h, hd, hw => by
    have hd' : max x.bd y.bd + 1 ≤ n := hd
    obtain ⟨n, rfl⟩ : ∃ k, n = k + 1 := ⟨n - 1, by omega⟩
    have ej := wS_w "both" (by decide +kernel)
    obtain ⟨h0, h1⟩ := h
    have e : Wgt (Con.both x y).tk = (Str.ofString "both").length + 1 + Wgt x.tk + 2 + Wgt y.tk + 1 := by
      show Wgt (wS "both" :: [40] :: (x.tk ++ [44] :: (y.tk ++ [[41]]))) = _
      simp only [Wgt_cons, Wgt_app, Wgt_nil, w_par.1, w_par.2.1, w_par.2.2, ej]; omega
    obtain ⟨z1, w1, l1⟩ := Con.wrw x n h0 (by omega) (by omega)
    obtain ⟨z2, w2, l2⟩ := Con.wrw y n h1 (by omega) (by omega)
    obtain ⟨q1, q2, q3⟩ := nw (w := "both") (by decide)
    refine ⟨_, .many q1 q2 (.cons (Con.pc w1) (.cons (Con.pc w2) .nil)) (by simp) q3 ?_, ?_⟩
    · simp only [List.map_cons, List.map_nil, List.sum_cons, List.sum_nil]; omega
    · rw [many_lenE, join2, e]; omega
  | .turned a b x, n, h, hd, hw => by
    have hd' : x.bd + 1 ≤ n := hd
    obtain ⟨n, rfl⟩ : ∃ k, n = k + 1 := ⟨n - 1, by omega⟩
    have ej := wS_w "turned" (by decide +kernel)
    obtain ⟨h0, h1, h2⟩ := h
    have e_a := wgt_word h0
    have e_b := wgt_word h1
    have e : Wgt (Con.turned a b x).tk = (Str.ofString "turned").length + 1 + a.length + 2 + b.length + 2 + Wgt x.tk + 1 := by
      show Wgt (wS "turned" :: [40] :: sg a :: [44] :: sg b :: [44] :: (x.tk ++ [[41]])) = _
      simp only [Wgt_cons, Wgt_app, Wgt_nil, w_par.1, w_par.2.1, w_par.2.2, ej, e_a, e_b]; omega
    obtain ⟨z1, w1, l1⟩ := Con.wrw x n h2 (by omega) (by omega)
    obtain ⟨q1, q2, q3⟩ := nw (w := "turned") (by decide)
    refine ⟨_, .many q1 q2 (.cons .str (.cons .str (.cons (Con.pc w1) .nil))) (by simp) q3 ?_, ?_⟩
    · simp only [List.map_cons, List.map_nil, List.sum_cons, List.sum_nil]; omega
    · rw [many_lenE, join3, e]; omega
  | .later u x, n, h, hd, hw => by
    have hd' : x.bd + 1 ≤ n := hd
    obtain ⟨n, rfl⟩ : ∃ k, n = k + 1 := ⟨n - 1, by omega⟩
    have ej := wS_w "later" (by decide +kernel)
    obtain ⟨h0, h1⟩ := h
    have e : Wgt (Con.later u x).tk = (Str.ofString "later").length + 1 + (Str.ofString (toString u)).length + 2 + Wgt x.tk + 1 := by
      show Wgt (wS "later" :: [40] :: numS u :: [44] :: (x.tk ++ [[41]])) = _
      simp only [Wgt_cons, Wgt_app, Wgt_nil, w_par.1, w_par.2.1, w_par.2.2, ej, wgt_num]; omega
    obtain ⟨z1, w1, l1⟩ := Con.wrw x n h1 (by omega) (by omega)
    obtain ⟨q1, q2, q3⟩ := nw (w := "later") (by decide)
    refine ⟨_, .many q1 q2 (.cons (.int (by have : u.natAbs < 10 ^ 13 := h0; omega)) (.cons (Con.pc w1) .nil)) (by simp) q3 ?_, ?_⟩
    · simp only [List.map_cons, List.map_nil, List.sum_cons, List.sum_nil]; omega
    · rw [many_lenE, join2, e]; omega
  | .often u v x, n, h, hd, hw => by
    have hd' : x.bd + 1 ≤ n := hd
    obtain ⟨n, rfl⟩ : ∃ k, n = k + 1 := ⟨n - 1, by omega⟩
    have ej := wS_w "often" (by decide +kernel)
    obtain ⟨h0, h1, h2⟩ := h
    have e : Wgt (Con.often u v x).tk = (Str.ofString "often").length + 1 + (Str.ofString (toString u)).length + 2 + (Str.ofString (toString v)).length + 2 + Wgt x.tk + 1 := by
      show Wgt (wS "often" :: [40] :: numS u :: [44] :: numS v :: [44] :: (x.tk ++ [[41]])) = _
      simp only [Wgt_cons, Wgt_app, Wgt_nil, w_par.1, w_par.2.1, w_par.2.2, ej, wgt_num, wgt_num]; omega
    obtain ⟨z1, w1, l1⟩ := Con.wrw x n h2 (by omega) (by omega)
    obtain ⟨q1, q2, q3⟩ := nw (w := "often") (by decide)
    refine ⟨_, .many q1 q2 (.cons (.int (by have : u.natAbs < 10 ^ 13 := h0; omega)) (.cons (.int (by have : v.natAbs < 10 ^ 13 := h1; omega)) (.cons (Con.pc w1) .nil))) (by simp) q3 ?_, ?_⟩
    · simp only [List.map_cons, List.map_nil, List.sum_cons, List.sum_nil]; omega
    · rw [many_lenE, join3, e]; omega
  | .ite q x y, n, h, hd, hw => by
    have hd' : max q.bd (max x.bd y.bd) + 1 ≤ n := hd
    obtain ⟨n, rfl⟩ : ∃ k, n = k + 1 := ⟨n - 1, by omega⟩
    have ej := wS_w "if" (by decide +kernel)
    obtain ⟨h0, h1, h2⟩ := h
    have e : Wgt (Con.ite q x y).tk = (Str.ofString "if").length + 1 + Wgt q.tk + 2 + Wgt x.tk + 2 + Wgt y.tk + 1 := by
      show Wgt (wS "if" :: [40] :: (q.tk ++ [44] :: (x.tk ++ [44] :: (y.tk ++ [[41]])))) = _
      simp only [Wgt_cons, Wgt_app, Wgt_nil, w_par.1, w_par.2.1, w_par.2.2, ej]; omega
    obtain ⟨z1, w1, l1⟩ := Asked.wrw q n h0 (by omega) (by omega)
    obtain ⟨z2, w2, l2⟩ := Con.wrw x n h1 (by omega) (by omega)
    obtain ⟨z3, w3, l3⟩ := Con.wrw y n h2 (by omega) (by omega)
    obtain ⟨q1, q2, q3⟩ := nw (w := "if") (by decide)
    refine ⟨_, .many q1 q2 (.cons (Asked.pc w1) (.cons (Con.pc w2) (.cons (Con.pc w3) .nil))) (by simp) q3 ?_, ?_⟩
    · simp only [List.map_cons, List.map_nil, List.sum_cons, List.sum_nil]; omega
    · rw [many_lenE, join3, e]; omega
  | .when q x, n, h, hd, hw => by
    have hd' : max q.bd x.bd + 1 ≤ n := hd
    obtain ⟨n, rfl⟩ : ∃ k, n = k + 1 := ⟨n - 1, by omega⟩
    have ej := wS_w "when" (by decide +kernel)
    obtain ⟨h0, h1⟩ := h
    have e : Wgt (Con.when q x).tk = (Str.ofString "when").length + 1 + Wgt q.tk + 2 + Wgt x.tk + 1 := by
      show Wgt (wS "when" :: [40] :: (q.tk ++ [44] :: (x.tk ++ [[41]]))) = _
      simp only [Wgt_cons, Wgt_app, Wgt_nil, w_par.1, w_par.2.1, w_par.2.2, ej]; omega
    obtain ⟨z1, w1, l1⟩ := Asked.wrw q n h0 (by omega) (by omega)
    obtain ⟨z2, w2, l2⟩ := Con.wrw x n h1 (by omega) (by omega)
    obtain ⟨q1, q2, q3⟩ := nw (w := "when") (by decide)
    refine ⟨_, .many q1 q2 (.cons (Asked.pc w1) (.cons (Con.pc w2) .nil)) (by simp) q3 ?_, ?_⟩
    · simp only [List.map_cons, List.map_nil, List.sum_cons, List.sum_nil]; omega
    · rw [many_lenE, join2, e]; omega
  | .till q x, n, h, hd, hw => by
    have hd' : max q.bd x.bd + 1 ≤ n := hd
    obtain ⟨n, rfl⟩ : ∃ k, n = k + 1 := ⟨n - 1, by omega⟩
    have ej := wS_w "until" (by decide +kernel)
    obtain ⟨h0, h1⟩ := h
    have e : Wgt (Con.till q x).tk = (Str.ofString "until").length + 1 + Wgt q.tk + 2 + Wgt x.tk + 1 := by
      show Wgt (wS "until" :: [40] :: (q.tk ++ [44] :: (x.tk ++ [[41]]))) = _
      simp only [Wgt_cons, Wgt_app, Wgt_nil, w_par.1, w_par.2.1, w_par.2.2, ej]; omega
    obtain ⟨z1, w1, l1⟩ := Asked.wrw q n h0 (by omega) (by omega)
    obtain ⟨z2, w2, l2⟩ := Con.wrw x n h1 (by omega) (by omega)
    obtain ⟨q1, q2, q3⟩ := nw (w := "until") (by decide)
    refine ⟨_, .many q1 q2 (.cons (Asked.pc w1) (.cons (Con.pc w2) .nil)) (by simp) q3 ?_, ?_⟩
    · simp only [List.map_cons, List.map_nil, List.sum_cons, List.sum_nil]; omega
    · rw [many_lenE, join2, e]; omega
theorem al_tupB {m : Mem} {n : Nat} {xs ys : List D} (h : xs.length ≤ 1000) (a : AleA m n xs ys) : Ale m (n + 1) (.tup xs) (.tup ys) := .tup (by omega) a
theorem Told.alb {m : Mem} : ∀ {t : Told} {n : Nat}, t.dp + 1 ≤ n → Ale m n t.d t.d
  | .num i, n + 1, _ => al_tupB (by show 2 ≤ 1000; omega) (.cons .str (.cons .int .nil))
  | .read x, n + 1, _ => al_tupB (by show 2 ≤ 1000; omega) (.cons .str (.cons .str .nil))
  | .bin j a b, n + 1, h => al_tupB (by show 3 ≤ 1000; omega) (.cons .str (.cons (Told.alb (by simp only [Told.dp] at h; omega)) (.cons (Told.alb (by simp only [Told.dp] at h; omega)) .nil)))
theorem Asked.alb {m : Mem} : ∀ {t : Asked} {n : Nat}, t.bd + 1 ≤ n → Ale m n t.d t.d
  | .lt a b, n + 1, h => al_tupB (by show 3 ≤ 1000; omega) (.cons .str (.cons (Told.alb (by simp only [Asked.bd] at h; omega)) (.cons (Told.alb (by simp only [Asked.bd] at h; omega)) .nil)))
  | .no a, n + 1, h => al_tupB (by show 2 ≤ 1000; omega) (.cons .str (.cons (Asked.alb (by simp only [Asked.bd] at h; omega)) .nil))
  | .all a b, n + 1, h => al_tupB (by show 3 ≤ 1000; omega) (.cons .str (.cons (Asked.alb (by simp only [Asked.bd] at h; omega)) (.cons (Asked.alb (by simp only [Asked.bd] at h; omega)) .nil)))
  | .any a b, n + 1, h => al_tupB (by show 3 ≤ 1000; omega) (.cons .str (.cons (Asked.alb (by simp only [Asked.bd] at h; omega)) (.cons (Asked.alb (by simp only [Asked.bd] at h; omega)) .nil)))
theorem Con.alb {m : Mem} : ∀ {c : Con} {n : Nat}, c.bd + 1 ≤ n → Ale m n c.d c.d
  | .no, n + 1, h => al_tupB (by show 1 ≤ 1000; omega) (.cons .str .nil)
  | .give a b g t, n + 1, h => al_tupB (by show 5 ≤ 1000; omega) (.cons .str (.cons .str (.cons .str (.cons .str (.cons (Told.alb (by simp only [Con.bd] at h; omega)) .nil)))))
  | .both x y, n + 1, h => al_tupB (by show 3 ≤ 1000; omega) (.cons .str (.cons (Con.alb (by simp only [Con.bd] at h; omega)) (.cons (Con.alb (by simp only [Con.bd] at h; omega)) .nil)))
  | .turned a b x, n + 1, h => al_tupB (by show 4 ≤ 1000; omega) (.cons .str (.cons .str (.cons .str (.cons (Con.alb (by simp only [Con.bd] at h; omega)) .nil))))
  | .later u x, n + 1, h => al_tupB (by show 3 ≤ 1000; omega) (.cons .str (.cons .int (.cons (Con.alb (by simp only [Con.bd] at h; omega)) .nil)))
  | .often u v x, n + 1, h => al_tupB (by show 4 ≤ 1000; omega) (.cons .str (.cons .int (.cons .int (.cons (Con.alb (by simp only [Con.bd] at h; omega)) .nil))))
  | .ite q x y, n + 1, h => al_tupB (by show 4 ≤ 1000; omega) (.cons .str (.cons (Asked.alb (by simp only [Con.bd] at h; omega)) (.cons (Con.alb (by simp only [Con.bd] at h; omega)) (.cons (Con.alb (by simp only [Con.bd] at h; omega)) .nil))))
  | .when q x, n + 1, h => al_tupB (by show 3 ≤ 1000; omega) (.cons .str (.cons (Asked.alb (by simp only [Con.bd] at h; omega)) (.cons (Con.alb (by simp only [Con.bd] at h; omega)) .nil)))
  | .till q x, n + 1, h => al_tupB (by show 3 ≤ 1000; omega) (.cons .str (.cons (Asked.alb (by simp only [Con.bd] at h; omega)) (.cons (Con.alb (by simp only [Con.bd] at h; omega)) .nil)))
theorem sp_wgt {tk : List (List Nat)} {t s : List Nat} (h : Sp tk t s) (hs : Bk s) : wgt t = Wgt tk := by
  rw [h.wgt_eq, wgt_bk hs]; omega
theorem wn_wgt {c : Con} {n : Nat} {z : Str} (h : Wn n c.d z) : wgt (sg z) = Wgt c.tk := by
  have h1 := Con.spz h []
  rw [List.append_nil] at h1
  exact sp_wgt h1 Bk.nil
theorem first35 {s : Dr} (B : DrB s) {k : Nat} {c : Con} (h : c.of (wordOf s) (namesOf s k)) (hd : c.dw) : ∃ z, Wn 12 c.d z ∧ z.length ≤ 3500 ∧ wgt (sg z) ≤ 3500 := by
  have hn : ∀ x ∈ namesOf s k, x.length ≤ 10 := fun x hx => Nat.le_trans (namesOf_wd B x hx).2.1 (by decide)
  have hp := hd.dp
  obtain ⟨z0, w0, _⟩ := Con.wr B hn c 10 h (by omega) hp
  have l0 := Con.dwlen B (namesOf_wd B) h hd w0
  have e0 := wn_wgt w0
  have g0 := wgt_le (sg z0)
  rw [sg_len] at g0
  obtain ⟨r, b⟩ := okCon_back (okCon_of B (namesOf_wd B) h (show c.dp + 5 < 12 by omega))
  obtain ⟨z, w, l⟩ := Con.wrw c 12 r (by omega) (by omega)
  have l1 := Con.dwlen B (namesOf_wd B) h hd w
  have e1 := wn_wgt w
  exact ⟨z, w, l1, by omega⟩
local macro_rules | `(tactic| wtm_at "one") => `(tactic| ((with_reducible apply i_isiK); (focus assumption); (focus decide)))
local macro_rules | `(tactic| wtm_at "one") => `(tactic| (with_reducible refine gMust_in ?_))
local macro_rules | `(tactic| wtm_at "one") => `(tactic| with_reducible (refine i_wcallS ?_))
local macro_rules | `(tactic| wtm_at "one") => `(tactic| with_reducible (refine i_try ?_))
def gRfT : SpM := fun ds m Q _ => ∃ t : Str, ds = [.str t] ∧ t.length ≤ sizeLine ∧ ∀ M, Sub m M → Q (.bl (readP (sg t)).isNone) M
abbrev s__law_refused : Stmt := topS 49
theorem sc__law_refused : FnScope ["_law_text_here", "e"] ["_law_text_here"] (defScope s__law_refused) := ⟨rfl, rfl, rfl, by decide +kernel, rfl, by decide +kernel, by decide +kernel⟩
theorem ok_law_refusedT {k : Nat} (Z : Bl mg) {c_BookError c_BadContract c_BadMarket c_TooMany c_BadText : Addr} (XE : Xcs K mg c_BookError c_BadContract c_BadMarket c_TooMany c_BadText) {f_read : Addr} {fd_read : FuncData} (D_read : Df K mg "read" f_read fd_read ["text"]) (G_read : FnMB P w K mg base (CXB P w) (k) f_read fd_read ["text"] (gRead c_BadText True)) {f__law_refused : Addr} {fd__law_refused : FuncData} (F : Fun K "_law_refused" "_law_refused" s__law_refused f__law_refused fd__law_refused) : FnMB P w K mg base CX0 (k + 1) f__law_refused fd__law_refused ["_law_text_here"] (gRfT) := by
  refine fn_mB F sc__law_refused (fun ds m Q E h => ?_) (fun cdv A outer s H ds m Q E E' l hc hr h => ?_)
  · obtain ⟨t, rfl, _⟩ := h; rfl
  have nd := sc__law_refused.nd
  obtain ⟨t, rfl, sz, q⟩ := h
  refine ⟨_, (mss_cons (bs_try_as (i := 1) (C := c_BadText) rfl rfl nd rfl rfl ⟨rfl, by decide, .inl XE.X_BookError.g⟩ XE.e_BadText (fun B' Es W pn xe sub tk hw => (mss_one (ms_expr (bx_callS (Es := Es) G_read.weakB hr (hc.tr sub) D_read.m D_read.k D_read.b (fun σ => passAt tk σ) hw (ma_cons (mv 0) ma_nil))))) (fun B' a oe pn hz hf => (mss_cons (ms_if (mw_pt (mw_or (mt_val (mx_callB (mc_isE XE.X_BadText.c hz hf) Z.b_isinstance (ma_cons (mv 1) (ma_cons (mx_exc XE.X_BadContract) ma_nil)))) (mw_or (mt_val (mx_callB (mc_isE XE.X_BadText.c hz hf) Z.b_isinstance (ma_cons (mv 1) (ma_cons (mx_exc XE.X_BadMarket) ma_nil)))) (mw_or1 (mt_val (mx_callB (mc_isE XE.X_BadText.c hz hf) Z.b_isinstance (ma_cons (mv 1) (ma_cons (mx_exc XE.X_TooMany) ma_nil)))))))) (mss_one (ms_ret mx_bl)) mss_nil)
    (mss_one (ms_ret (mx_and (mx_callB (mc_isE XE.X_BadText.c hz hf) Z.b_isinstance (ma_cons (mv 1) (ma_cons (mx_exc XE.X_BadText) ma_nil))) (mx_one (mx_callB (mc_isE XE.X_BadText.c hz hf) Z.b_isinstance (ma_cons (mv 1) (ma_cons (mx_ty (T := "ValueError") Z.b_ValueError) ma_nil))))))))))
    (mss_one (ms_ret mx_bl))), ?_⟩
  wtm_at "go"
  refine ⟨t, rfl, sz, fun d M hd sb => ?_, fun hn => ⟨trivial, fun M sb => ?_⟩⟩
  · rw [hd] at q
    wtm_at "go"
    exact RtM.mk (q _ sb)
  · rw [hn] at q
    refine ⟨rfl, fun x hx => ?_⟩
    wtm_at "go"
    refine ⟨rfl, false, XE.k_BadText_BadContract, ?_⟩
    wtm_at "go"
    refine ⟨rfl, false, XE.k_BadText_BadMarket, ?_⟩
    wtm_at "go"
    refine ⟨rfl, false, XE.k_BadText_TooMany, ?_⟩
    wtm_at "go"
    refine ⟨rfl, true, XE.k_BadText_BadText, ?_⟩
    wtm_at "go"
    refine ⟨rfl, true, XE.v_BadText, ?_⟩
    wtm_at "go"
    exact RtM.mk (q _ sb)
open PySem.StrLaws (replL replS replL_nil replL_hit replL_miss replace_list)
def TkOk (w : List Nat) : Prop := w = [40] ∨ w = [41] ∨ w = [44] ∨ (w ≠ [] ∧ ∀ x ∈ w, 45 ≤ x)
theorem TkOk.hd {w : List Nat} (h : TkOk w) : Hd w := by
  rcases h with rfl | rfl | rfl | ⟨h, k⟩
  · exact ⟨40, [], rfl, by decide⟩
  · exact ⟨41, [], rfl, by decide⟩
  · exact ⟨44, [], rfl, by decide⟩
  · cases w with
    | nil => exact absurd rfl h
    | cons x u => exact ⟨x, u, rfl, by have := k x (.head _); omega⟩
theorem TkOk.not {w : List Nat} {c : Nat} (h : TkOk w) (hc : c = 40 ∨ c = 41 ∨ c = 44) : w = [c] ∨ c ∉ w := by
  rcases h with rfl | rfl | rfl | ⟨_, k⟩
  · rcases hc with rfl | rfl | rfl <;> simp
  · rcases hc with rfl | rfl | rfl <;> simp
  · rcases hc with rfl | rfl | rfl <;> simp
  · exact .inr fun hm => by have := k c hm; omega
theorem tk_word {x : Str} (h : Wl x) : TkOk (sg x) := .inr (.inr (.inr ⟨fun e => by have := h.1; rw [e] at this; simp at this, fun c hc => by have := h.2.2 c hc; omega⟩))
theorem tk_num (n : Int) : TkOk (numS n) := .inr (.inr (.inr ⟨fun e => (by obtain ⟨c, q, h, _⟩ := numS_h n; rw [e] at h; cases h), fun c hc => by have := numS_plain n c hc; omega⟩))
theorem tk_wS (s : String) (h : (decide (1 ≤ (sg (Str.ofString s)).length) && decide ((sg (Str.ofString s)).length ≤ 8) && (sg (Str.ofString s)).all fun c => decide (97 ≤ c) && decide (c ≤ 122)) = true) : TkOk (wS s) := tk_word (word_wl s h)
def TkA (ws : List (List Nat)) : Prop := ∀ w ∈ ws, TkOk w
theorem TkA.nil : TkA [] := fun _ h => nomatch h
theorem TkA.cons {w : List Nat} {ws : List (List Nat)} (h : TkOk w) (k : TkA ws) : TkA (w :: ws) := fun x hx => (List.mem_cons.mp hx).elim (fun e => e ▸ h) (k x)
theorem TkA.app {a b : List (List Nat)} (h : TkA a) (k : TkA b) : TkA (a ++ b) := fun x hx => (List.mem_append.mp hx).elim (h x) (k x)
theorem tk40 : TkOk [40] := .inl rfl
theorem tk41 : TkOk [41] := .inr (.inl rfl)
theorem tk44 : TkOk [44] := .inr (.inr (.inl rfl))
theorem Jn.tkok (j : Jn) : TkOk (sg j.w) := tk_word (jn_wl j)
theorem Told.tka : ∀ {t : Told}, t.rwd → TkA t.tk
  | .num n, _ => .cons (tk_num n) .nil
  | .read x, h => .cons (tk_word h) .nil
  | .bin j a b, h => .cons j.tkok (.cons tk40 (.app (Told.tka h.1) (.cons tk44 (.app (Told.tka h.2) (.cons tk41 .nil)))))
theorem Asked.tka : ∀ {t : Asked}, t.rwd → TkA t.tk
  | .lt a b, h => .cons (tk_wS "below" (by decide +kernel)) (.cons tk40 (.app (Told.tka h.1) (.cons tk44 (.app (Told.tka h.2) (.cons tk41 .nil)))))
  | .no a, h => .cons (tk_wS "not" (by decide +kernel)) (.cons tk40 (.app (Asked.tka (t := a) h) (.cons tk41 .nil)))
  | .all a b, h => .cons (tk_wS "all" (by decide +kernel)) (.cons tk40 (.app (Asked.tka h.1) (.cons tk44 (.app (Asked.tka h.2) (.cons tk41 .nil)))))
  | .any a b, h => .cons (tk_wS "any" (by decide +kernel)) (.cons tk40 (.app (Asked.tka h.1) (.cons tk44 (.app (Asked.tka h.2) (.cons tk41 .nil)))))
theorem Con.tka : ∀ {c : Con}, c.rwd → TkA c.tk
  | .no, _ => .cons (tk_wS "none" (by decide +kernel)) .nil
  | .give a b g t, h => .cons (tk_wS "give" (by decide +kernel)) (.cons tk40 (.cons (tk_word h.1) (.cons tk44 (.cons (tk_word h.2.1) (.cons tk44 (.cons (tk_word h.2.2.1) (.cons tk44 (.app (Told.tka h.2.2.2) (.cons tk41 .nil)))))))))
  | .both x y, h => .cons (tk_wS "both" (by decide +kernel)) (.cons tk40 (.app (Con.tka h.1) (.cons tk44 (.app (Con.tka h.2) (.cons tk41 .nil)))))
  | .turned a b x, h => .cons (tk_wS "turned" (by decide +kernel)) (.cons tk40 (.cons (tk_word h.1) (.cons tk44 (.cons (tk_word h.2.1) (.cons tk44 (.app (Con.tka h.2.2) (.cons tk41 .nil)))))))
  | .later u x, h => .cons (tk_wS "later" (by decide +kernel)) (.cons tk40 (.cons (tk_num u) (.cons tk44 (.app (Con.tka h.2) (.cons tk41 .nil)))))
  | .often n k x, h => .cons (tk_wS "often" (by decide +kernel)) (.cons tk40 (.cons (tk_num n) (.cons tk44 (.cons (tk_num k) (.cons tk44 (.app (Con.tka h.2.2) (.cons tk41 .nil)))))))
  | .ite q x y, h => .cons (tk_wS "if" (by decide +kernel)) (.cons tk40 (.app (Asked.tka h.1) (.cons tk44 (.app (Con.tka h.2.1) (.cons tk44 (.app (Con.tka h.2.2) (.cons tk41 .nil)))))))
  | .when q x, h => .cons (tk_wS "when" (by decide +kernel)) (.cons tk40 (.app (Asked.tka h.1) (.cons tk44 (.app (Con.tka h.2) (.cons tk41 .nil)))))
  | .till q x, h => .cons (tk_wS "until" (by decide +kernel)) (.cons tk40 (.app (Asked.tka h.1) (.cons tk44 (.app (Con.tka h.2) (.cons tk41 .nil)))))
theorem Sp.drop1 {ws : List (List Nat)} {r : List Nat} (h : TkA ws) (q : Sp ws (32 :: r) []) : Sp ws r [] := by
  cases ws with
  | nil =>
    obtain ⟨b, e, hb⟩ := q
    rw [List.append_nil] at e
    exact ⟨r, by rw [List.append_nil], fun c hc => hb c (e ▸ List.mem_cons_of_mem _ hc)⟩
  | cons w ws =>
    obtain ⟨b, r1, e, hb, q⟩ := q
    obtain ⟨x, u, ew, nx⟩ := (h w (.head _)).hd
    subst ew
    cases b with
    | nil =>
      rw [List.nil_append, List.cons_append] at e
      injection e with e1 _
      exact absurd e1.symm nx
    | cons y b =>
      rw [List.cons_append] at e
      injection e with _ e2
      exact ⟨b, r1, e2, fun c hc => hb c (List.mem_cons_of_mem _ hc), q⟩
theorem repl_copyW {c : Nat} {yb z R : List Nat} : ∀ {w : List Nat}, c ∉ w → replL (c :: yb) z (w ++ R) = w ++ replL (c :: yb) z R
  | [], _ => rfl
  | x :: w, h => by
    rw [List.cons_append, replL_miss (by
      intro e
      rw [List.length_cons, List.take_succ_cons] at e
      injection e with e1 _
      exact h (e1 ▸ List.mem_cons_self)), repl_copyW fun hm => h (List.mem_cons_of_mem _ hm)]
    rfl
theorem repl_sp {c : Nat} {yb b1 b2 : List Nat} (hy : yb = [] ∨ yb = [32]) (hc : c = 40 ∨ c = 41 ∨ c = 44) (h1 : Bk b1) (h2 : Bk b2) : ∀ {ws : List (List Nat)} {L : List Nat}, TkA ws → Sp ws L [] → Sp ws (replL (c :: yb) (b1 ++ ([c] ++ b2)) L) []
  | [], L, _, ⟨b, e, hb⟩ => by
    rw [List.append_nil] at e
    subst e
    have n : c ∉ L := fun hm => by have := hb c hm; omega
    have e := repl_copyW (yb := yb) (z := b1 ++ ([c] ++ b2)) (R := []) n
    rw [List.append_nil, replL_nil, List.append_nil] at e
    exact ⟨L, by rw [e, List.append_nil], hb⟩
  | w :: ws, L, t, ⟨b, r1, e, hb, q⟩ => by
    have tw : TkA ws := fun x hx => t x (.tail _ hx)
    have n : c ∉ b := fun hm => by have := hb c hm; omega
    rw [e, repl_copyW n]
    rcases (t w (.head _)).not hc with ew | nw
    · subst ew
      by_cases hit : (c :: r1).take (c :: yb).length = c :: yb
      · show Sp ([c] :: ws) (b ++ replL (c :: yb) (b1 ++ ([c] ++ b2)) (c :: r1)) []
        rw [replL_hit (by simp) hit]
        rcases hy with rfl | rfl
        · refine ⟨b ++ b1, b2 ++ replL [c] (b1 ++ ([c] ++ b2)) r1, by simp only [List.append_assoc, List.length_cons, List.length_nil, List.drop_succ_cons, List.drop_zero, Nat.zero_add], hb.app h1, Sp.bl h2 (repl_sp (.inl rfl) hc h1 h2 tw q)⟩
        · cases r1 with
          | nil => simp at hit
          | cons x r2 =>
            have ex : x = 32 := by simpa using hit
            subst ex
            refine ⟨b ++ b1, b2 ++ replL [c, 32] (b1 ++ ([c] ++ b2)) r2, by simp only [List.append_assoc, List.length_cons, List.length_nil, List.drop_succ_cons, List.drop_zero, Nat.zero_add], hb.app h1, Sp.bl h2 (repl_sp (.inr rfl) hc h1 h2 tw (Sp.drop1 tw q))⟩
      · show Sp ([c] :: ws) (b ++ replL (c :: yb) (b1 ++ ([c] ++ b2)) (c :: r1)) []
        rw [replL_miss hit]
        exact ⟨b, _, rfl, hb, repl_sp hy hc h1 h2 tw q⟩
    · rw [repl_copyW nw]
      exact ⟨b, _, rfl, hb, repl_sp hy hc h1 h2 tw q⟩
theorem sg_replace {x y z : Str} (hy : 1 ≤ y.length) : sg (Txt.replace x y z) = replL (sg y) (sg z) (sg x) := replace_list hy
def nbk (l : List Nat) : List Nat := l.filter fun c => decide (c ≠ 32)
theorem nbk_bk {b : List Nat} (h : Bk b) : nbk b = [] := List.filter_eq_nil_iff.mpr fun c hc => by rw [h c hc]; decide
theorem nbk_app {a b : List Nat} : nbk (a ++ b) = nbk a ++ nbk b := List.filter_append ..
theorem Sp.nbk : ∀ {ws : List (List Nat)} {r s : List Nat}, Sp ws r s → Mm.nbk r = (ws.map Mm.nbk).flatten ++ Mm.nbk s
  | [], _, _, ⟨b, e, h⟩ => by rw [e, nbk_app, nbk_bk h]; rfl
  | w :: ws, _, _, ⟨b, r1, e, h, t⟩ => by rw [e, nbk_app, nbk_app, nbk_bk h, Sp.nbk t, List.map_cons, List.flatten_cons, List.nil_append, List.append_assoc]
theorem repl_nbk : ∀ l : List Nat, replL [32] [] l = Mm.nbk l
  | [] => replL_nil
  | c :: l => by
    by_cases e : c = 32
    · subst e
      rw [replL_hit (by simp) rfl]
      show [] ++ replL [32] [] l = _
      rw [List.nil_append, repl_nbk l]
      rfl
    · rw [replL_miss (by simpa using e), repl_nbk l]
      show _ = (c :: l).filter _
      rw [List.filter_cons_of_pos (by simpa using e)]
      rfl
theorem str_sg {a b : Str} (h : sg a = sg b) : a = b := by
  cases a; cases b
  congr
  exact Array.toList_inj.mp h
theorem nbk_eq {ws : List (List Nat)} {a b : Str} {s s' : List Nat} (h : Sp ws (sg a) s) (hs : Bk s) (k : Sp ws (sg b) s') (ks : Bk s') : Txt.replace a " " "" = Txt.replace b " " "" := by
  have e1 : sg (" " : Str) = [32] := by decide +kernel
  have e2 : sg ("" : Str) = [] := by decide +kernel
  have e3 : 1 ≤ (" " : Str).length := by decide +kernel
  refine str_sg ?_
  rw [sg_replace e3, sg_replace e3, e1, e2, repl_nbk, repl_nbk, h.nbk, k.nbk, nbk_bk hs, nbk_bk ks]
theorem two_none {c : Con} {n : Nat} {z : Str} (w : Wn n c.d z) (ok : okCon 12 c.d = true) : readP (sg (z ++ " " ++ z)) = none := by
  have h1 := okCon_back ok
  have es : sg (z ++ " " ++ z) = sg z ++ (32 :: sg z) := by
    rw [sg_app, sg_app, show sg (" " : Str) = [32] from by decide +kernel]; simp
  unfold readP
  split
  · rfl
  rw [es]
  obtain ⟨r', e1, e2⟩ := con_cp c 40 (sg z ++ (32 :: sg z)) (32 :: sg z) h1.1 (by omega) (Con.spz w (32 :: sg z)) (fun x hx => by
    cases hx
    show ¬ Al 32
    unfold Al
    omega)
  rw [e1]
  show (if skip r' = [] then (if okCon 12 c.d = true then some c.d else none) else none) = none
  rw [if_neg]
  rw [e2, skip_b]
  intro hk
  have hb := skip_bk0 hk
  have hz := Con.spz w []
  rw [List.append_nil] at hz
  obtain ⟨w0, ws, et, hd⟩ := Con.tk_hd (c := c)
  rw [et] at hz
  obtain ⟨b, r1, e, _, _⟩ := hz
  obtain ⟨x, u, ew, nx⟩ := hd
  exact nx (hb x (by rw [e, ew]; simp))
theorem wide_back {c : Con} {n : Nat} {z z1 z2 z3 : Str} {b : List Nat} {t : Str} (w : Wn n c.d z) (ok : okCon 12 c.d = true) (h1 : ∃ a b, sg z1 = a ++ ([44] ++ b) ∧ Bk a ∧ Bk b) (h2 : ∃ a b, sg z2 = a ++ ([40] ++ b) ∧ Bk a ∧ Bk b) (h3 : ∃ a b, sg z3 = a ++ ([41] ++ b) ∧ Bk a ∧ Bk b)
    (hb : Bk b) (et : sg t = b ++ sg (Txt.replace (Txt.replace (Txt.replace z ", " z1) "(" z2) ")" z3)) (hl : t.length ≤ 4000) : readP (sg t) = some c.d := by
  have r := okCon_back ok
  have hz := Con.spz w []
  rw [List.append_nil] at hz
  have hk := Con.tka r.1
  obtain ⟨a1, c1, e1, p1, q1⟩ := h1
  obtain ⟨a2, c2, e2, p2, q2⟩ := h2
  obtain ⟨a3, c3, e3, p3, q3⟩ := h3
  have s1 : Sp c.tk (sg (Txt.replace z ", " z1)) [] := by
    rw [sg_replace (by decide +kernel), show sg (", " : Str) = [44, 32] from by decide +kernel, e1]
    exact repl_sp (.inr rfl) (by simp) p1 q1 hk hz
  have s2 : Sp c.tk (sg (Txt.replace (Txt.replace z ", " z1) "(" z2)) [] := by
    rw [sg_replace (by decide +kernel), show sg ("(" : Str) = [40] from by decide +kernel, e2]
    exact repl_sp (.inl rfl) (by simp) p2 q2 hk s1
  have s3 : Sp c.tk (sg (Txt.replace (Txt.replace (Txt.replace z ", " z1) "(" z2) ")" z3)) [] := by
    rw [sg_replace (by decide +kernel), show sg (")" : Str) = [41] from by decide +kernel, e3]
    exact repl_sp (.inl rfl) (by simp) p3 q3 hk s2
  refine readP_cp (by rw [sg_len]; exact hl) ok (s := []) (by rw [et]; exact Sp.bl hb s3) rfl fun x hx => by cases hx
theorem found29 {t : Str} {d : D} (h : readP (sg t) = some d) (hw : wgt (sg t) ≤ 3600) : ∃ (c : Con) (z : Str), d = c.d ∧ okCon 12 c.d = true ∧ c.bd ≤ 12 ∧ c.rwd ∧ Wn 12 c.d z ∧ z.length ≤ 3600 ∧ Txt.replace z " " "" = Txt.replace t " " "" := by
  obtain ⟨_, c, rfl, ok, r, s, hs, hk⟩ := readP_ok h
  have bs := skip_bk0 hk
  have e := sp_wgt hs bs
  obtain ⟨_, b⟩ := okCon_back ok
  obtain ⟨z, w, l⟩ := Con.wrw c 12 r (by omega) (by omega)
  have h1 := Con.spz w []
  rw [List.append_nil] at h1
  exact ⟨c, z, rfl, ok, by omega, r, w, by omega, nbk_eq h1 Bk.nil hs bs⟩
theorem bk32 : Bk [32] := fun c hc => by simpa using hc
theorem bk322 : Bk [32, 32] := fun c hc => by simpa using hc
theorem pkA {u : Int} (h0 : 0 ≤ u) (h1 : u < 3) : ∃ z : Str, (([",", " ,  ", ", "] : List Str)[u.toNat]? = some z) ∧ z.length ≤ 4 ∧ ∃ a b, sg z = a ++ ([44] ++ b) ∧ Bk a ∧ Bk b := by
  have : u = 0 ∨ u = 1 ∨ u = 2 := by omega
  rcases this with rfl | rfl | rfl
  · exact ⟨",", rfl, by decide +kernel, [], [], by decide +kernel, Bk.nil, Bk.nil⟩
  · exact ⟨" ,  ", rfl, by decide +kernel, [32], [32, 32], by decide +kernel, bk32, bk322⟩
  · exact ⟨", ", rfl, by decide +kernel, [], [32], by decide +kernel, Bk.nil, bk32⟩
theorem pkB {u : Int} (h0 : 0 ≤ u) (h1 : u < 2) : ∃ z : Str, (["(", " ( "] : List Str)[u.toNat]? = some z ∧ z.length ≤ 3 ∧ ∃ a b, sg z = a ++ ([40] ++ b) ∧ Bk a ∧ Bk b := by
  have : u = 0 ∨ u = 1 := by omega
  rcases this with rfl | rfl
  · exact ⟨"(", rfl, by decide +kernel, [], [], by decide +kernel, Bk.nil, Bk.nil⟩
  · exact ⟨" ( ", rfl, by decide +kernel, [32], [32], by decide +kernel, bk32, bk32⟩
theorem pkC {u : Int} (h0 : 0 ≤ u) (h1 : u < 2) : ∃ z : Str, ([")", " ) "] : List Str)[u.toNat]? = some z ∧ z.length ≤ 3 ∧ ∃ a b, sg z = a ++ ([41] ++ b) ∧ Bk a ∧ Bk b := by
  have : u = 0 ∨ u = 1 := by omega
  rcases this with rfl | rfl
  · exact ⟨")", rfl, by decide +kernel, [], [], by decide +kernel, Bk.nil, Bk.nil⟩
  · exact ⟨" ) ", rfl, by decide +kernel, [32], [32], by decide +kernel, bk32, bk32⟩
theorem repl_len {x y z t : Str} {n k l : Nat} (e : Txt.replace x y z = t) (h1 : x.length ≤ n) (h2 : z.length ≤ k) (h : n + (n + 1) * k ≤ l) : t.length ≤ l := by
  have a := TK.replace_len x y z
  rw [e] at a
  have b : (x.length + 1) * z.length ≤ (n + 1) * k := Nat.mul_le_mul (by omega) h2
  omega
theorem repl_fit {x z : Str} {n k : Nat} (h1 : x.length ≤ n) (h2 : z.length ≤ k) (h : n + (n + 1) * k ≤ 16777216) : x.length + (x.length + 1) * z.length ≤ 16777216 := by
  have b : (x.length + 1) * z.length ≤ (n + 1) * k := Nat.mul_le_mul (by omega) h2
  omega
theorem mulOk {x : Str} {n : Int} (h0 : 0 ≤ n) (h1 : n ≤ 4000) (hx : x.length ≤ 10) : MulOk x n := by
  have hm : x.length * n.toNat ≤ 10 * 4000 := Nat.mul_le_mul hx (by omega)
  refine ⟨by simp; omega, fun h _ => ?_, fun _ _ => decide_eq_false (Nat.not_lt.mpr (Nat.le_trans hm (by rw [sizeLine_eq]; decide)))⟩
  have hp : 0 < n := by omega
  have e : (x.length : Int) * n ≤ 2 ^ 63 - 1 := by
    have : ((x.length * n.toNat : Nat) : Int) ≤ 40000 := by omega
    rw [Int.natCast_mul, Int.toNat_of_nonneg h0] at this
    omega
  have := Int.le_ediv_of_mul_le hp e
  omega
theorem pkD {u : Int} (h0 : 0 ≤ u) (h1 : u < 3) : ∃ X, Txt.mul " " u = X ∧ Bk (sg X) ∧ X.length ≤ 2 := by
  have : u = 0 ∨ u = 1 ∨ u = 2 := by omega
  rcases this with rfl | rfl | rfl
  · exact ⟨_, rfl, (by rw [show sg (Txt.mul " " 0) = [] from by decide +kernel]; exact Bk.nil), by decide +kernel⟩
  · exact ⟨_, rfl, (by rw [show sg (Txt.mul " " 1) = [32] from by decide +kernel]; exact bk32), by decide +kernel⟩
  · exact ⟨_, rfl, (by rw [show sg (Txt.mul " " 2) = [32, 32] from by decide +kernel]; exact bk322), by decide +kernel⟩
theorem sl3 {n : Nat} (h : n ≤ 300000) : n ≤ sizeLine := Nat.le_trans h (by rw [sizeLine_eq]; decide)
theorem nx_norm {E : EndsM} {ρ : StM} (ρ' : StM) {m : Mem} (h : ρ = ρ') (k : E.nx ρ' m) : E.nx ρ m := h ▸ k
theorem cut_toS {z : Str} {b : Nat} (hb : b ≤ (sg z).length) : cutS z none (some (b : Int)) = strOf ((sg z).take b) := by
  have h1 : HT.sIx z.cps.toList.length 0 none = 0 := rfl
  have h2 : HT.sIx z.cps.toList.length z.cps.toList.length (some (b : Int)) = b := by
    show (if (b : Int) < 0 then ((b : Int) + (z.cps.toList.length : Int)).toNat else min (b : Int).toNat z.cps.toList.length) = _
    unfold sg at hb
    rw [if_neg (by omega), Int.toNat_natCast]; omega
  show (⟨(cutL z.cps.toList none (some (b : Int))).toArray⟩ : Str) = _
  unfold cutL
  rw [h1, h2]; rfl
theorem cut_fromA {z : Str} {a : Nat} : cutS z (some (a : Int)) none = strOf ((sg z).drop a) := by
  have h1 : HT.sIx z.cps.toList.length 0 (some (a : Int)) = min a z.cps.toList.length := by
    show (if (a : Int) < 0 then ((a : Int) + (z.cps.toList.length : Int)).toNat else min (a : Int).toNat z.cps.toList.length) = _
    rw [if_neg (by omega), Int.toNat_natCast]
  have h2 : HT.sIx z.cps.toList.length z.cps.toList.length none = z.cps.toList.length := rfl
  show (⟨(cutL z.cps.toList (some (a : Int)) none).toArray⟩ : Str) = _
  unfold cutL
  rw [h1, h2]
  unfold sg strOf
  congr 2
  rw [List.take_of_length_le (by rw [List.length_drop]; exact Nat.le_refl _)]
  by_cases h : a ≤ z.cps.toList.length
  · rw [Nat.min_eq_left h]
  · rw [Nat.min_eq_right (by omega), List.drop_length, List.drop_eq_nil_of_le (by omega)]
theorem cut_one {z : Str} {a : Nat} (ha : a ≤ (sg z).length) : cutS z (some (a : Int)) (some ((a : Int) + 1)) = strOf (((sg z).drop a).take 1) := by
  unfold sg at ha
  have h1 : HT.sIx z.cps.toList.length 0 (some (a : Int)) = a := by
    show (if (a : Int) < 0 then ((a : Int) + (z.cps.toList.length : Int)).toNat else min (a : Int).toNat z.cps.toList.length) = _
    rw [if_neg (by omega), Int.toNat_natCast]; omega
  have h2 : HT.sIx z.cps.toList.length z.cps.toList.length (some ((a : Int) + 1)) = min (a + 1) z.cps.toList.length := by
    show (if (a : Int) + 1 < 0 then ((a : Int) + 1 + (z.cps.toList.length : Int)).toNat else min ((a : Int) + 1).toNat z.cps.toList.length) = _
    rw [if_neg (by omega)]
    have : ((a : Int) + 1).toNat = a + 1 := by omega
    rw [this]
  show (⟨(cutL z.cps.toList (some (a : Int)) (some ((a : Int) + 1))).toArray⟩ : Str) = _
  unfold cutL
  rw [h1, h2]
  unfold sg strOf
  congr 2
  by_cases h : a < z.cps.toList.length
  · rw [Nat.min_eq_left (by omega)]
    congr 1; omega
  · have e : a = z.cps.toList.length := by omega
    rw [List.drop_eq_nil_of_le (by omega)]; simp
theorem spo_a {z : Str} {a : Nat} (l : (sg z).length ≤ 3500) (g : wgt (sg z) ≤ 3500) : (strOf ((sg z).take a) ++ strOf ((sg z).drop (a + 1))).length ≤ 3510 ∧ wgt (sg (strOf ((sg z).take a) ++ strOf ((sg z).drop (a + 1)))) ≤ 3510 := by
  have e : sg (strOf ((sg z).take a) ++ strOf ((sg z).drop (a + 1))) = (sg z).take a ++ (sg z).drop (a + 1) := by rw [sg_app, sg_strOf, sg_strOf]
  have w1 : wgt ((sg z).take a) + wgt ((sg z).drop a) = wgt (sg z) := by rw [← wgt_app, List.take_append_drop]
  have w2 : wgt (((sg z).drop a).take 1) + wgt (((sg z).drop a).drop 1) = wgt ((sg z).drop a) := by rw [← wgt_app, List.take_append_drop]
  rw [List.drop_drop] at w2
  refine ⟨by rw [← sg_len, e]; simp only [List.length_append, List.length_take, List.length_drop]; omega, by rw [e, wgt_app]; omega⟩
theorem spo_b {z w : Str} {a : Nat} (l : (sg z).length ≤ 3500) (g : wgt (sg z) ≤ 3500) (hw : w.length ≤ 1) : (strOf ((sg z).take a) ++ w ++ strOf ((sg z).drop a)).length ≤ 3510 ∧ wgt (sg (strOf ((sg z).take a) ++ w ++ strOf ((sg z).drop a))) ≤ 3510 := by
  have e : sg (strOf ((sg z).take a) ++ w ++ strOf ((sg z).drop a)) = (sg z).take a ++ sg w ++ (sg z).drop a := by rw [sg_app, sg_app, sg_strOf, sg_strOf]
  have w1 : wgt ((sg z).take a) + wgt ((sg z).drop a) = wgt (sg z) := by rw [← wgt_app, List.take_append_drop]
  have w2 := wgt_le (sg w)
  rw [← sg_len] at hw
  refine ⟨by rw [← sg_len, e]; simp only [List.length_append, List.length_take, List.length_drop]; omega, by rw [e, wgt_app, wgt_app]; omega⟩
theorem i_seqK {t u : TSm} {E : EndsM} {ρ : StM} {m : Mem} (P : StM → Mem → Prop) (h1 : ∀ K : StM → Mem → Prop, (∀ ρ m, P ρ m → K ρ m) → t { E with nx := K } ρ m) (h2 : ∀ ρ m, P ρ m → u E ρ m) : wSeq t u E ρ m := h1 _ h2
theorem DrI.subL {K : PySem.W.Frag} {m M : Mem} {a : Addr} {s : Dr} (h : DrI K m a s) (t : Sub m M) : DrI K M a s := by
  obtain ⟨ns, l, z⟩ := h.sc
  exact ⟨t _ _ h.e, ⟨ns, l.sub t, z⟩, h.at0, h.rest0, h.mix0, h.mix1⟩
local macro_rules | `(tactic| wtm_at "one") => `(tactic| ((with_reducible apply i_isiK); (focus assumption); (focus decide)))
local macro_rules | `(tactic| wtm_at "one") => `(tactic| (with_reducible refine gMust_in ?_))
local macro_rules | `(tactic| wtm_at "one") => `(tactic| with_reducible (refine i_repl ?_))
local macro_rules | `(tactic| wtm_at "one") => `(tactic| with_reducible (refine i_replIx ?_))
local macro_rules | `(tactic| wtm_at "one") => `(tactic| with_reducible (refine i_wcallS ?_))
local macro_rules | `(tactic| wtm_at "one") => `(tactic| with_reducible (refine i_tryO ?_))
theorem spDrawn.mk {K : PySem.W.Frag} {m : Mem} {Q : KM} {Em : XM} {a : Addr} {s : Dr} {many : Int} (h0 : 0 ≤ many) (h4 : many ≤ 4) (I : DrI K m a s) (B : DrB s)
    (q : ∀ (c : Con) s' m', c.of (wordOf s) (namesOf s many.toNat) → c.dw → s.sw s' → DrI K m' a s' → DrN m' s' (namesOf s many.toNat) → Kp a m m' → Q c.d m') : spDrawn K [.ref a, .int many] m Q Em :=
  ⟨a, s, many.toNat, by rw [show ((many.toNat : Nat) : Int) = many by omega], by omega, I, B, q⟩
abbrev s_law : Stmt := topS 50
theorem sc_law : FnScope ["_law_script", "_law_s", "_law_contract_here", "_law_text_here", "_law_wide", "_law_at", "_law_sign", "_law_spoilt", "_law_found"] ["_law_script"] (defScope s_law) := ⟨rfl, rfl, rfl, by decide +kernel, rfl, by decide +kernel, by decide +kernel⟩
theorem ok_law {k : Nat} (Z : Bl mg) {c_BookError c_BadContract c_BadMarket c_TooMany c_BadText : Addr} (XE : Xcs K mg c_BookError c_BadContract c_BadMarket c_TooMany c_BadText) (NB : NoBk K) {f__law_begun : Addr} {fd__law_begun : FuncData} (D__law_begun : Df K mg "_law_begun" f__law_begun fd__law_begun ["_law_script"]) (G__law_begun : FnM P w K mg base CX0 (k) f__law_begun fd__law_begun ["_law_script"] (spBegun K)) {f__law_taken : Addr} {fd__law_taken : FuncData} (D__law_taken : Df K mg "_law_taken" f__law_taken fd__law_taken ["_law_s", "_law_most"]) (G__law_taken : FnM P w K mg base CX0 (k) f__law_taken fd__law_taken ["_law_s", "_law_most"] (spTaken K)) {f__law_drawn : Addr} {fd__law_drawn : FuncData} (D__law_drawn : Df K mg "_law_drawn" f__law_drawn fd__law_drawn ["_law_s", "_law_many"]) (G__law_drawn : FnM P w K mg base CX0 (k) f__law_drawn fd__law_drawn ["_law_s", "_law_many"] (spDrawn K)) {f__law_text : Addr} {fd__law_text : FuncData} (D__law_text : Df K mg "_law_text" f__law_text fd__law_text ["_law_told_here"]) (G__law_text : FnM P w K mg base CX0 (k) f__law_text fd__law_text ["_law_told_here"] (spWrP 14)) {f__law_alike : Addr} {fd__law_alike : FuncData} (D__law_alike : Df K mg "_law_alike" f__law_alike fd__law_alike ["_law_found", "_law_due"]) (G__law_alike : FnM P w K mg base CX0 (k) f__law_alike fd__law_alike ["_law_found", "_law_due"] (spAl 20)) {f_read : Addr} {fd_read : FuncData} (D_read : Df K mg "read" f_read fd_read ["text"]) (GB_read : FnMB P w K mg base (CXB P w) (k) f_read fd_read ["text"] (gRead c_BadText True)) {f__law_refused : Addr} {fd__law_refused : FuncData} (D__law_refused : Df K mg "_law_refused" f__law_refused fd__law_refused ["_law_text_here"]) (GB__law_refused : FnMB P w K mg base CX0 (k) f__law_refused fd__law_refused ["_law_text_here"] (gRfT)) {f_need_contract : Addr} {fd_need_contract : FuncData} (D_need_contract : Df K mg "need_contract" f_need_contract fd_need_contract ["contract"]) (G_need_contract : FnM P w K mg base (L2.CX P w) (k) f_need_contract fd_need_contract ["contract"] (gNeedCon c_BadContract)) {f_law : Addr} {fd_law : FuncData} (F : Fun K "law" "law" s_law f_law fd_law) : FnM P w K mg base CX0 (k + 1) f_law fd_law ["_law_script"] (spLaw K) := by
  refine fn_m F sc_law (fun ds m Q E h => ?_) (fun cdv A outer s H ds m Q E E' hr h => ?_)
  · obtain ⟨c, ns, rfl, _⟩ := h; rfl
  have nd := sc_law.nd
  have G_read := GB_read.weakB.calm
  obtain ⟨c, ns, rfl, hL, hl, q⟩ := h
  refine ⟨_, (mss_cons (ms_set (i := 1) nd rfl (.inl rfl) (mx_call (Em := noX) G__law_begun hr D__law_begun.m D__law_begun.k D__law_begun.b pass0M (ma_cons (mv 0) ma_nil)))
    (mss_tok (i := 2) nd rfl (.inl rfl) (mx1_call (Em := noX) G__law_drawn hr D__law_drawn.m D__law_drawn.k D__law_drawn.b pass0M (ma1_r (mv 1) (ma1_l (mx1_call (Em := noX) G__law_taken hr D__law_taken.m D__law_taken.k D__law_taken.b pass0M (ma1_r (mv 1) (ma1_l mx1_int ma_nil))) ma_nil)))
    (msst_cons (mst_of (ms_set (i := 3) nd rfl (.inl rfl) (mx_call (Em := noX) G__law_text hr D__law_text.m D__law_text.k D__law_text.b pass0M (ma_cons (mv 2) ma_nil))))
    (msst_cons (mst_set (i := 4) nd rfl (.inl rfl) (mxt_replIx (ls := ["(", " ( "]) NB (.cons (.cons .nil)) (by decide) (mxt_replIx (ls := [",", " ,  ", ", "]) NB (.cons (.cons (.cons .nil))) (by decide) (mxt_of (mv 3)) (mx_call (Em := noX) G__law_taken hr D__law_taken.m D__law_taken.k D__law_taken.b pass0M (ma_cons (mv 1) (ma_cons mx_int ma_nil)))) (mx_call (Em := noX) G__law_taken hr D__law_taken.m D__law_taken.k D__law_taken.b pass0M (ma_cons (mv 1) (ma_cons mx_int ma_nil)))))
    (msst_cons (mst_set (i := 4) nd rfl (.inl rfl) (mxt_op mo_plus (mxt_of (mx_op mo_times mx_str (mx_call (Em := noX) G__law_taken hr D__law_taken.m D__law_taken.k D__law_taken.b pass0M (ma_cons (mv 1) (ma_cons mx_int ma_nil))))) (mxt_replIx (ls := [")", " ) "]) NB (.cons (.cons .nil)) (by decide) (mxt_of (mv 4)) (mx_call (Em := noX) G__law_taken hr D__law_taken.m D__law_taken.k D__law_taken.b pass0M (ma_cons (mv 1) (ma_cons mx_int ma_nil))))))
    (msst_cons (mst_of (ms_if (mw_pt (mw_or (mt_not (mt_val (mx_call (Em := noX) G__law_alike hr D__law_alike.m D__law_alike.k D__law_alike.b pass0M (ma_cons (mx_call (Em := noX) G_read hr D_read.m D_read.k D_read.b passX0 (ma_cons (mv 3) ma_nil)) (ma_cons (mv 2) ma_nil))))) (mw_or1 (mw_pt (mw_and (mt_cmp mo_lt (mx_callB mc_len1 Z.b_len (ma_cons (mv 4) ma_nil)) mx_int (nomark _)) (mw_and1 (mt_not (mt_val (mx_call (Em := noX) G__law_alike hr D__law_alike.m D__law_alike.k D__law_alike.b pass0M (ma_cons (mx_call (Em := noX) G_read hr D_read.m D_read.k D_read.b passX0 (ma_cons (mv 4) ma_nil)) (ma_cons (mv 2) ma_nil))))))))))) (mss_one (ms_ret mx_bl)) mss_nil))
    (msst_cons (mst_of (ms_set (i := 5) nd rfl (.inl rfl) (mx_call (Em := noX) G__law_taken hr D__law_taken.m D__law_taken.k D__law_taken.b pass0M (ma_cons (mv 1) (ma_cons (mx_op mo_plus (mx_callB mc_len1 Z.b_len (ma_cons (mv 3) ma_nil)) mx_int) ma_nil)))))
    (msst_cons (mst_of (ms_set (i := 6) nd rfl (.inl rfl) (mx_ix (mi_sub hr) mx_str (mx_call (Em := noX) G__law_taken hr D__law_taken.m D__law_taken.k D__law_taken.b pass0M (ma_cons (mv 1) (ma_cons mx_int ma_nil))))))
    (msst_cons (mst_of (ms_set (i := 7) nd rfl (.inl rfl) (mx_lst (ma_cons (mx_op mo_plus (mx_slice (mv 3) mo_none (mo_some (mv 5))) (mx_slice (mv 3) (mo_some (mx_op mo_plus (mv 5) mx_int)) mo_none)) (ma_cons (mx_op mo_plus (mx_op mo_plus (mx_slice (mv 3) mo_none (mo_some (mv 5))) (mx_slice (mv 3) (mo_some (mv 5)) (mo_some (mx_op mo_plus (mv 5) mx_int)))) (mx_slice (mv 3) (mo_some (mv 5)) mo_none)) (ma_cons (mx_op mo_plus (mx_op mo_plus (mx_slice (mv 3) mo_none (mo_some (mv 5))) (mv 6)) (mx_slice (mv 3) (mo_some (mv 5)) mo_none)) ma_nil))))))
    (msst_cons (mst_of (ms_set (i := 7) nd rfl (.inl rfl) (mx_ix (mi_sub hr) (mv 7) (mx_call (Em := noX) G__law_taken hr D__law_taken.m D__law_taken.k D__law_taken.b pass0M (ma_cons (mv 1) (ma_cons mx_int ma_nil))))))
    (msst_cons (mst_of (ms_set (i := 8) nd rfl (.inl rfl) mx_non))
    (msst_cons (mst_of (bs_try_only (C := c_BadText) rfl rfl ⟨rfl, by decide, .inl XE.X_BadText.g⟩ XE.s_BadText (fun B' Es W pn xe sub tk hw => (mss_one (ms_set (i := 8) nd rfl (.inl rfl) (bx_callS (Es := Es) GB_read (L2H.roomH_of hr) ((HC.none hr.hd).tr sub) D_read.m D_read.k D_read.b (fun σ => passAtB tk σ) hw (ma_cons (mv 7) ma_nil))))) (fun B' a pn hot => (mss_one (ms_ret (mx_and (bx_call (Em := noX) GB__law_refused (L2H.roomH_mark hr _) hot D__law_refused.m D__law_refused.k D__law_refused.b pass0M (ma_cons (mv 7) ma_nil)) (mx_one (bx_call (Em := noX) GB__law_refused (L2H.roomH_mark hr _) hot D__law_refused.m D__law_refused.k D__law_refused.b pass0M (ma_cons (mx_op mo_plus (mx_op mo_plus (mv 3) mx_str) (mv 3)) ma_nil)))))))))
    (msst_cons (mst_of (ms_if (mt_cmp mo_notN (mx_call (Em := noX) G_need_contract hr D_need_contract.m D_need_contract.k D_need_contract.b passX0 (ma_cons (mv 8) ma_nil)) mx_non (nomark _)) (mss_one (ms_ret mx_bl)) mss_nil))
    (msst_one (mst_ret (mxt_cmp (mo_eqq hr) (mxt_repl (by decide) (mxt_of (mx_call (Em := noX) G__law_text hr D__law_text.m D__law_text.k D__law_text.b pass0M (ma_cons (mv 8) ma_nil)))) (mxt_repl (by decide) (mxt_of (mv 7))) (nomark _))))))))))))))))), ?_⟩
  wtm_at "go"
  refine ⟨c, ns, rfl, hL, hl, fun a s m1 ea ha S1 I B N0 nea => ?_⟩
  wtm_at "go"
  refine spTaken.mk I (by decide) (by decide) fun w s1 h0 h1 n1 I1 => ?_
  wtm_at "go"
  have B1 := B.nx n1
  refine spDrawn.mk h0 (by omega) I1 B1 fun x s2 m2 hx hd sw I2 N2 kp => ?_
  obtain ⟨z, wz, lz, gz⟩ := first35 B1 hx hd
  have okx := okCon_of B1 (namesOf_wd B1) hx (show x.dp + 5 < 12 by have := hd.dp; omega)
  refine nx_norm [some (.ref c), some (.ref a), some x.d, none, none, none, none, none, none] rfl ?_
  wtm_at "go"
  refine ⟨_, z, rfl, ⟨12, by omega, Con.pc wz⟩, ?_⟩
  refine nx_norm [some (.ref c), some (.ref a), some x.d, some (.str z), none, none, none, none, none] rfl ?_
  wtm_at "go"
  refine ⟨z, rfl, ?_⟩
  wtm_at "go"
  refine spTaken.mk I2 (by decide) (by decide) fun u1 s3 u10 u11 n3 I3 => ?_
  obtain ⟨z1, e1, l1, p1⟩ := pkA u10 u11
  refine ⟨u1, z1, rfl, u10, by omega, e1, repl_fit (n := 3500) (k := 4) lz l1 (by decide), ?_⟩
  obtain ⟨t1, et1⟩ : ∃ t, Txt.replace z ", " z1 = t := ⟨_, rfl⟩
  have lt1 := repl_len (l := 17504) et1 lz l1 (by decide)
  rw [et1]
  refine ⟨t1, rfl, ?_⟩
  wtm_at "go"
  refine spTaken.mk I3 (by decide) (by decide) fun u2 s4 u20 u21 n4 I4 => ?_
  rw [mput_mput] at I4 ⊢
  obtain ⟨z2, e2, l2, p2⟩ := pkB u20 u21
  refine ⟨u2, z2, rfl, u20, by omega, e2, repl_fit lt1 l2 (by decide), ?_⟩
  obtain ⟨t2, et2⟩ : ∃ t, Txt.replace t1 "(" z2 = t := ⟨_, rfl⟩
  have lt2 := repl_len (l := 70019) et2 lt1 l2 (by decide)
  rw [et2]
  refine nx_norm [some (.ref c), some (.ref a), some x.d, some (.str z), some (.str t2), none, none, none, none] rfl ?_
  wtm_at "go"
  refine spTaken.mk I4 (by decide) (by decide) fun u3 s5 u30 u31 n5 I5 => ?_
  rw [mput_mput] at I5 ⊢
  wtm_at "go"
  refine i_timesS (mulOk u30 (by omega) (by decide +kernel)) ?_
  obtain ⟨X, eX, bX, lX⟩ := pkD u30 u31
  rw [eX]
  wtm_at "go"
  refine ⟨t2, rfl, ?_⟩
  wtm_at "go"
  refine spTaken.mk I5 (by decide) (by decide) fun u4 s6 u40 u41 n6 I6 => ?_
  rw [mput_mput] at I6 ⊢
  obtain ⟨z3, e3, l3, p3⟩ := pkC u40 u41
  refine ⟨u4, z3, rfl, u40, by omega, e3, repl_fit lt2 l3 (by decide), ?_⟩
  obtain ⟨t3, et3⟩ : ∃ t, Txt.replace t2 ")" z3 = t := ⟨_, rfl⟩
  have lt3 := repl_len (l := 280079) et3 lt2 l3 (by decide)
  rw [et3]
  have lX3 : (X ++ t3).length ≤ 280081 := by rw [PySem.Str.length_append]; omega
  have wd : (X ++ t3).length ≤ 4000 → readP (sg (X ++ t3)) = some x.d := fun hl => by
    subst et1 et2 et3
    exact wide_back wz okx p1 p2 p3 bX sg_app hl
  refine i_plusS (sl3 (by rw [PySem.Str.length_append] at lX3; omega)) ?_
  generalize X ++ t3 = Y at lX3 wd ⊢
  have rz : readP (sg z) = some x.d := read_back wz (by omega) okx
  generalize mput m2 a s6.o = m6 at I6 ⊢
  clear I5 I4 I3 I2 I1 kp N2 hx I S1 ea B N0 p1 p2 p3 e1 e2 e3 et1 et2 et3 lt1 lt2 lt3
  refine nx_norm [some (.ref c), some (.ref a), some x.d, some (.str z), some (.str Y), none, none, none, none] rfl ?_
  have bx := (okCon_back okx).2
  with_reducible refine i_seqK (fun ρ M => ρ = [some (.ref c), some (.ref a), some x.d, some (.str z), some (.str Y), none, none, none, none] ∧ DrI K M a s6) ?_ ?_
  · intro KK hK
    wtm_at "go"
    refine ⟨z, rfl, sl3 (by omega), fun d M hd' sb => ?_, fun hn => (by rw [rz] at hn; cases hn)⟩
    rw [rz] at hd'
    obtain rfl := Option.some.inj hd'
    wtm_at "go"
    refine ⟨_, _, rfl, by omega, ⟨13, by omega, Con.alb (by omega)⟩, ?_⟩
    wtm_at "go"
    refine i_lenS (sl3 (by omega)) ?_
    wtm_at "go"
    by_cases hl4 : (Y.length : Int) < 4000
    · rw [decide_eq_true hl4]
      have ry := wd (by omega)
      wtm_at "go"
      refine ⟨Y, rfl, sl3 (by omega), fun d M2 hd2 sb2 => ?_, fun hn => (by rw [ry] at hn; cases hn)⟩
      rw [ry] at hd2
      obtain rfl := Option.some.inj hd2
      wtm_at "go"
      refine ⟨_, _, rfl, by omega, ⟨13, by omega, Con.alb (by omega)⟩, ?_⟩
      wtm_at "go"
      exact hK _ _ ⟨rfl, I6.subL (sb.trans sb2)⟩
    · rw [decide_eq_false hl4]
      wtm_at "go"
      exact hK _ _ ⟨rfl, I6.subL sb⟩
  rintro ρ M ⟨rfl, I7⟩
  clear I6 wd lX3 bX eX
  have el : (sg z).length = z.length := sg_len
  have hz : z.length ≤ sizeLine := sl3 (by omega)
  wtm_at "go"
  refine i_lenS hz ?_
  wtm_at "go"
  refine spTaken.mk I7 (by omega) (by omega) fun v s7 v0 v1 n7 I8 => ?_
  obtain ⟨v, rfl⟩ : ∃ n : Nat, v = (n : Int) := ⟨v.toNat, by omega⟩
  have hv : v ≤ z.length := by omega
  generalize mput M a s7.o = m7 at I8 ⊢
  refine nx_norm [some (.ref c), some (.ref a), some x.d, some (.str z), some (.str Y), some (.int (v : Int)), none, none, none] rfl ?_
  wtm_at "go"
  refine spTaken.mk I8 (by decide) (by decide) fun g s8 g0 g1 n8 I9 => ?_
  have hgs : ∀ j : Nat, j < 14 → (atI (Str.ofString "(), -019abz*A\n").cps.toList (j : Int)).isSome = true := by decide +kernel
  obtain ⟨cc, ec⟩ := Option.isSome_iff_exists.mp (hgs g.toNat (by omega))
  rw [show ((g.toNat : Nat) : Int) = g by omega] at ec
  generalize mput m7 a s8.o = m8 at I9 ⊢
  refine i_subS (sl3 (by decide +kernel)) ec ?_
  have hcs : (⟨#[cc]⟩ : Str).length = 1 := rfl
  generalize (⟨#[cc]⟩ : Str) = cs at hcs ⊢
  have hcs' : (sg cs).length = 1 := by rw [sg_len]; exact hcs
  refine nx_norm [some (.ref c), some (.ref a), some x.d, some (.str z), some (.str Y), some (.int (v : Int)), some (.str cs), none, none] rfl ?_
  clear hgs ec I8 I7
  wtm_at "go"
  refine i_slS hz ?_
  rw [cut_toS (by omega)]
  wtm_at "go"
  refine i_slS hz ?_
  rw [show ((v : Int) + 1) = ((v + 1 : Nat) : Int) from rfl, cut_fromA]
  wtm_at "go"
  refine i_plusS (sl3 (by simp only [str_len, sg_strOf, List.length_take, List.length_drop]; omega)) ?_
  have fA := spo_a (a := v) (by omega : (sg z).length ≤ 3500) gz
  generalize strOf ((sg z).take v) ++ strOf ((sg z).drop (v + 1)) = tA at fA ⊢
  wtm_at "go"
  refine i_slS hz ?_
  rw [cut_toS (by omega)]
  wtm_at "go"
  refine i_slS hz ?_
  rw [cut_one (by omega)]
  wtm_at "go"
  have fw : (strOf (((sg z).drop v).take 1)).length ≤ 1 := by rw [str_len, sg_strOf, List.length_take]; omega
  generalize strOf (((sg z).drop v).take 1) = w1 at fw ⊢
  have fw' : (sg w1).length ≤ 1 := by rw [sg_len]; exact fw
  refine i_plusS (sl3 (by simp only [str_len, sg_strOf, List.length_take, List.length_drop]; omega)) ?_
  wtm_at "go"
  refine i_slS hz ?_
  rw [cut_fromA]
  wtm_at "go"
  refine i_plusS (sl3 (by simp only [str_len, sg_app, List.length_append, sg_strOf, List.length_take, List.length_drop]; omega)) ?_
  have fB := spo_b (w := w1) (a := v) (by omega : (sg z).length ≤ 3500) gz fw
  generalize strOf ((sg z).take v) ++ w1 ++ strOf ((sg z).drop v) = tB at fB ⊢
  wtm_at "go"
  refine i_slS hz ?_
  rw [cut_toS (by omega)]
  wtm_at "go"
  refine i_plusS (sl3 (by simp only [str_len, sg_strOf, List.length_take, List.length_drop]; omega)) ?_
  wtm_at "go"
  refine i_slS hz ?_
  rw [cut_fromA]
  wtm_at "go"
  refine i_plusS (sl3 (by simp only [str_len, sg_app, List.length_append, sg_strOf, List.length_take, List.length_drop]; omega)) ?_
  have fC := spo_b (w := cs) (a := v) (by omega : (sg z).length ≤ 3500) gz (by omega)
  generalize strOf ((sg z).take v) ++ cs ++ strOf ((sg z).drop v) = tC at fC ⊢
  wtm_at "go"
  intro pL hpL
  have nL : a ≠ pL := by rintro rfl; rw [I9.e] at hpL; cases hpL
  have I10 := I9.subL ((Sub.refl (m := m8)).new (o := .lst [.str tA, .str tB, .str tC]) hpL)
  have eL : mput m8 pL (.lst [.str tA, .str tB, .str tC]) pL = some (.lst [.str tA, .str tB, .str tC]) := mput_same
  generalize mput m8 pL (.lst [.str tA, .str tB, .str tC]) = m9 at I10 eL ⊢
  refine nx_norm [some (.ref c), some (.ref a), some x.d, some (.str z), some (.str Y), some (.int (v : Int)), some (.str cs), some (.ref pL), none] rfl ?_
  wtm_at "go"
  refine spTaken.mk I10 (by decide) (by decide) fun r s9 r0 r1 n9 I11 => ?_
  obtain ⟨t, et, lt, gt⟩ : ∃ t, atI [D.str tA, .str tB, .str tC] r = some (.str t) ∧ t.length ≤ 3510 ∧ wgt (sg t) ≤ 3510 := by
    have : r = 0 ∨ r = 1 ∨ r = 2 := by omega
    rcases this with rfl | rfl | rfl
    · exact ⟨tA, rfl, fA⟩
    · exact ⟨tB, rfl, fB⟩
    · exact ⟨tC, rfl, fC⟩
  refine i_subL (rd_L (by rw [mput_ne nL.symm]; exact eL)) et ?_
  generalize mput m9 a s9.o = m10 at I11 ⊢
  clear I9 I10 eL et fA fB fC nL hpL
  refine nx_norm [some (.ref c), some (.ref a), some x.d, some (.str z), some (.str Y), some (.int (v : Int)), some (.str cs), some (.str t), none] rfl ?_
  wtm_at "go"
  refine ⟨t, rfl, sl3 (by omega), fun d M2 hd2 sb2 => ?_, fun hn => ⟨trivial, fun M2 sb2 => ?_⟩⟩
  · obtain ⟨f, y, rfl, okf, hb, rw', wy, ly, ke⟩ := found29 hd2 (by omega)
    refine nx_norm [some (.ref c), some (.ref a), some x.d, some (.str z), some (.str Y), some (.int (v : Int)), some (.str cs), some (.str t), some f.d] rfl ?_
    wtm_at "go"
    refine ⟨_, rfl, Con.kdr rw', ?_⟩
    rw [okf]
    wtm_at "go"
    refine ⟨_, y, rfl, ⟨12, by omega, Con.pc wy⟩, ?_⟩
    wtm_at "go"
    refine ⟨y, rfl, repl_fit (n := 3600) (k := 0) ly (by decide +kernel) (by decide), ?_⟩
    wtm_at "go"
    refine ⟨t, rfl, repl_fit (n := 3510) (k := 0) lt (by decide +kernel) (by decide), ?_⟩
    wtm_at "go"
    rw [decide_eq_true ke]
    exact RtM.mk (q _)
  · refine ⟨rfl, ?_⟩
    wtm_at "go"
    refine ⟨t, rfl, sl3 (by omega), fun M3 sb3 => ?_⟩
    rw [hn]
    wtm_at "go"
    refine i_plusS (sl3 (by rw [show (Str.ofString " ").length = 1 by decide +kernel]; omega)) ?_
    wtm_at "go"
    refine i_plusS (sl3 (by rw [PySem.Str.length_append, show (Str.ofString " ").length = 1 by decide +kernel]; omega)) ?_
    wtm_at "go"
    refine ⟨_, rfl, sl3 (by rw [PySem.Str.length_append, PySem.Str.length_append, show (Str.ofString " ").length = 1 by decide +kernel]; omega), fun M4 sb4 => ?_⟩
    have tn : readP (sg (z ++ Str.ofString " " ++ z)) = none := two_none wz okx
    rw [tn]
    wtm_at "go"
    exact RtM.mk (q _)
open PySem.W (nsIn fnOf codeIn keepIn isFn mg_of) in
set_option maxHeartbeats 0 in
theorem all_mk {l : PySem.W.OpenLaw} {w : World} {K : PySem.W.Frag} {h : Heap} {mg : Str → Option Value} {fa f0 f1 f2 f3 f4 f5 f6 f7 f8 f9 f10 f11 f12 f13 f14 f15 f16 f17 f18 f19 f20 f21 f22 f23 f24 f25 f26 f27 f28 f29 f30 f31 f32 f33 f34 f35 f36 f37 c_Reader : Addr} (X : K.In h) (G : h.Ns mainGlobals mg) (hfa : mg "law" = some (.ref fa))
    {od0 an0 od1 an1 od2 an2 od3 an3 od4 an4 od5 an5 od6 an6 od7 an7 od8 an8 od9 an9 od10 an10 od11 an11 od12 an12 od13 an13 od14 an14 od15 an15 od16 an16 od17 an17 od18 an18 od19 an19 od20 an20 od21 an21 od22 an22 od23 an23 od24 an24 od25 an25 od26 an26 od27 an27 od28 an28 od29 an29 od30 an30 od31 an31 od32 an32 od33 an33 od34 an34 od35 an35 od36 an36 od37 an37 : Option Addr} {sl0 sl1 sl2 sl3 sl4 sl5 sl6 sl7 sl8 sl9 sl10 sl11 sl12 sl13 sl14 sl15 sl16 sl17 sl18 sl19 sl20 sl21 sl22 sl23 sl24 sl25 sl26 sl27 sl28 sl29 sl30 sl31 sl32 sl33 sl34 sl35 sl36 sl37 : Array (Option Value)} {oc0 kV0 dc0 pm0 cd0 ct0 oc1 kV1 dc1 pm1 cd1 ct1 oc2 kV2 dc2 pm2 cd2 ct2 oc3 kV3 dc3 pm3 cd3 ct3 oc4 kV4 dc4 pm4 cd4 ct4 oc5 kV5 dc5 pm5 cd5 ct5 oc6 kV6 dc6 pm6 cd6 ct6 oc7 kV7 dc7 pm7 cd7 ct7 oc8 kV8 dc8 pm8 cd8 ct8 oc9 kV9 dc9 pm9 cd9 ct9 oc10 kV10 dc10 pm10 cd10 ct10 oc11 kV11 dc11 pm11 cd11 ct11 oc12 kV12 dc12 pm12 cd12 ct12 oc13 kV13 dc13 pm13 cd13 ct13 oc14 kV14 dc14 pm14 cd14 ct14 oc15 kV15 dc15 pm15 cd15 ct15 oc16 kV16 dc16 pm16 cd16 ct16 oc17 kV17 dc17 pm17 cd17 ct17 oc18 kV18 dc18 pm18 cd18 ct18 oc19 kV19 dc19 pm19 cd19 ct19 oc20 kV20 dc20 pm20 cd20 ct20 oc21 kV21 dc21 pm21 cd21 ct21 oc22 kV22 dc22 pm22 cd22 ct22 oc23 kV23 dc23 pm23 cd23 ct23 oc24 kV24 dc24 pm24 cd24 ct24 oc25 kV25 dc25 pm25 cd25 ct25 oc26 kV26 dc26 pm26 cd26 ct26 oc27 kV27 dc27 pm27 cd27 ct27 oc28 kV28 dc28 pm28 cd28 ct28 oc29 kV29 dc29 pm29 cd29 ct29 oc30 kV30 dc30 pm30 cd30 ct30 oc31 kV31 dc31 pm31 cd31 ct31 oc32 kV32 dc32 pm32 cd32 ct32 oc33 kV33 dc33 pm33 cd33 ct33 oc34 kV34 dc34 pm34 cd34 ct34 oc35 kV35 dc35 pm35 cd35 ct35 oc36 kV36 dc36 pm36 cd36 ct36 oc37 kV37 dc37 pm37 cd37 ct37 : Value}
(a0 : nsIn K mainGlobals "must" = some (some (.ref f0))) (l0 : K.lookup f0 = some ⟨oc0, od0, .func (fnOf "must" "must" (defArgs s_must) (defBody s_must) (defScope s_must) .none kV0 dc0 pm0 an0 cd0 ct0), sl0⟩) (c0 : codeIn K cd0 "must" = true) (k0 : keepIn K (.ref f0) = true)
(a1 : nsIn K mainGlobals "is_word" = some (some (.ref f1))) (l1 : K.lookup f1 = some ⟨oc1, od1, .func (fnOf "is_word" "is_word" (defArgs s_is_word) (defBody s_is_word) (defScope s_is_word) .none kV1 dc1 pm1 an1 cd1 ct1), sl1⟩) (c1 : codeIn K cd1 "is_word" = true) (k1 : keepIn K (.ref f1) = true)
(a2 : nsIn K mainGlobals "need_number" = some (some (.ref f2))) (l2 : K.lookup f2 = some ⟨oc2, od2, .func (fnOf "need_number" "need_number" (defArgs s_need_number) (defBody s_need_number) (defScope s_need_number) .none kV2 dc2 pm2 an2 cd2 ct2), sl2⟩) (c2 : codeIn K cd2 "need_number" = true) (k2 : keepIn K (.ref f2) = true)
(a3 : nsIn K mainGlobals "need_tuple" = some (some (.ref f3))) (l3 : K.lookup f3 = some ⟨oc3, od3, .func (fnOf "need_tuple" "need_tuple" (defArgs s_need_tuple) (defBody s_need_tuple) (defScope s_need_tuple) .none kV3 dc3 pm3 an3 cd3 ct3), sl3⟩) (c3 : codeIn K cd3 "need_tuple" = true) (k3 : keepIn K (.ref f3) = true)
(a4 : nsIn K mainGlobals "need_told" = some (some (.ref f4))) (l4 : K.lookup f4 = some ⟨oc4, od4, .func (fnOf "need_told" "need_told" (defArgs s_need_told) (defBody s_need_told) (defScope s_need_told) .none kV4 dc4 pm4 an4 cd4 ct4), sl4⟩) (c4 : codeIn K cd4 "need_told" = true) (k4 : keepIn K (.ref f4) = true)
(a5 : nsIn K mainGlobals "need_asked" = some (some (.ref f5))) (l5 : K.lookup f5 = some ⟨oc5, od5, .func (fnOf "need_asked" "need_asked" (defArgs s_need_asked) (defBody s_need_asked) (defScope s_need_asked) .none kV5 dc5 pm5 an5 cd5 ct5), sl5⟩) (c5 : codeIn K cd5 "need_asked" = true) (k5 : keepIn K (.ref f5) = true)
(a6 : nsIn K mainGlobals "need_sides" = some (some (.ref f6))) (l6 : K.lookup f6 = some ⟨oc6, od6, .func (fnOf "need_sides" "need_sides" (defArgs s_need_sides) (defBody s_need_sides) (defScope s_need_sides) .none kV6 dc6 pm6 an6 cd6 ct6), sl6⟩) (c6 : codeIn K cd6 "need_sides" = true) (k6 : keepIn K (.ref f6) = true)
(a7 : nsIn K mainGlobals "look" = some (some (.ref f7))) (l7 : K.lookup f7 = some ⟨oc7, od7, .func (fnOf "look" "look" (defArgs s_look) (defBody s_look) (defScope s_look) .none kV7 dc7 pm7 an7 cd7 ct7), sl7⟩) (c7 : codeIn K cd7 "look" = true) (k7 : keepIn K (.ref f7) = true)
(a8 : nsIn K mainGlobals "need_contract" = some (some (.ref f8))) (l8 : K.lookup f8 = some ⟨oc8, od8, .func (fnOf "need_contract" "need_contract" (defArgs s_need_contract) (defBody s_need_contract) (defScope s_need_contract) .none kV8 dc8 pm8 an8 cd8 ct8), sl8⟩) (c8 : codeIn K cd8 "need_contract" = true) (k8 : keepIn K (.ref f8) = true)
(a9 : nsIn K mainGlobals "within" = some (some (.ref f9))) (l9 : K.lookup f9 = some ⟨oc9, od9, .func (fnOf "within" "within" (defArgs s_within) (defBody s_within) (defScope s_within) .none kV9 dc9 pm9 an9 cd9 ct9), sl9⟩) (c9 : codeIn K cd9 "within" = true) (k9 : keepIn K (.ref f9) = true)
(a10 : nsIn K mainGlobals "read" = some (some (.ref f10))) (l10 : K.lookup f10 = some ⟨oc10, od10, .func (fnOf "read" "read" (defArgs s_read) (defBody s_read) (defScope s_read) .none kV10 dc10 pm10 an10 cd10 ct10), sl10⟩) (c10 : codeIn K cd10 "read" = true) (k10 : keepIn K (.ref f10) = true)
(a11 : nsIn K mainGlobals "need_read" = some (some (.ref f11))) (l11 : K.lookup f11 = some ⟨oc11, od11, .func (fnOf "need_read" "need_read" (defArgs s_need_read) (defBody s_need_read) (defScope s_need_read) .none kV11 dc11 pm11 an11 cd11 ct11), sl11⟩) (c11 : codeIn K cd11 "need_read" = true) (k11 : keepIn K (.ref f11) = true)
(a12 : nsIn K mainGlobals "_law_begun" = some (some (.ref f12))) (l12 : K.lookup f12 = some ⟨oc12, od12, .func (fnOf "_law_begun" "_law_begun" (defArgs s__law_begun) (defBody s__law_begun) (defScope s__law_begun) .none kV12 dc12 pm12 an12 cd12 ct12), sl12⟩) (c12 : codeIn K cd12 "_law_begun" = true) (k12 : keepIn K (.ref f12) = true)
(a13 : nsIn K mainGlobals "_law_taken" = some (some (.ref f13))) (l13 : K.lookup f13 = some ⟨oc13, od13, .func (fnOf "_law_taken" "_law_taken" (defArgs s__law_taken) (defBody s__law_taken) (defScope s__law_taken) .none kV13 dc13 pm13 an13 cd13 ct13), sl13⟩) (c13 : codeIn K cd13 "_law_taken" = true) (k13 : keepIn K (.ref f13) = true)
(a14 : nsIn K mainGlobals "_law_word" = some (some (.ref f14))) (l14 : K.lookup f14 = some ⟨oc14, od14, .func (fnOf "_law_word" "_law_word" (defArgs s__law_word) (defBody s__law_word) (defScope s__law_word) .none kV14 dc14 pm14 an14 cd14 ct14), sl14⟩) (c14 : codeIn K cd14 "_law_word" = true) (k14 : keepIn K (.ref f14) = true)
(a15 : nsIn K mainGlobals "_law_number" = some (some (.ref f15))) (l15 : K.lookup f15 = some ⟨oc15, od15, .func (fnOf "_law_number" "_law_number" (defArgs s__law_number) (defBody s__law_number) (defScope s__law_number) .none kV15 dc15 pm15 an15 cd15 ct15), sl15⟩) (c15 : codeIn K cd15 "_law_number" = true) (k15 : keepIn K (.ref f15) = true)
(a16 : nsIn K mainGlobals "_law_told" = some (some (.ref f16))) (l16 : K.lookup f16 = some ⟨oc16, od16, .func (fnOf "_law_told" "_law_told" (defArgs s__law_told) (defBody s__law_told) (defScope s__law_told) .none kV16 dc16 pm16 an16 cd16 ct16), sl16⟩) (c16 : codeIn K cd16 "_law_told" = true) (k16 : keepIn K (.ref f16) = true)
(a17 : nsIn K mainGlobals "_law_asked" = some (some (.ref f17))) (l17 : K.lookup f17 = some ⟨oc17, od17, .func (fnOf "_law_asked" "_law_asked" (defArgs s__law_asked) (defBody s__law_asked) (defScope s__law_asked) .none kV17 dc17 pm17 an17 cd17 ct17), sl17⟩) (c17 : codeIn K cd17 "_law_asked" = true) (k17 : keepIn K (.ref f17) = true)
(a18 : nsIn K mainGlobals "_law_sides" = some (some (.ref f18))) (l18 : K.lookup f18 = some ⟨oc18, od18, .func (fnOf "_law_sides" "_law_sides" (defArgs s__law_sides) (defBody s__law_sides) (defScope s__law_sides) .none kV18 dc18 pm18 an18 cd18 ct18), sl18⟩) (c18 : codeIn K cd18 "_law_sides" = true) (k18 : keepIn K (.ref f18) = true)
(a19 : nsIn K mainGlobals "_law_good" = some (some (.ref f19))) (l19 : K.lookup f19 = some ⟨oc19, od19, .func (fnOf "_law_good" "_law_good" (defArgs s__law_good) (defBody s__law_good) (defScope s__law_good) .none kV19 dc19 pm19 an19 cd19 ct19), sl19⟩) (c19 : codeIn K cd19 "_law_good" = true) (k19 : keepIn K (.ref f19) = true)
(a20 : nsIn K mainGlobals "_law_give" = some (some (.ref f20))) (l20 : K.lookup f20 = some ⟨oc20, od20, .func (fnOf "_law_give" "_law_give" (defArgs s__law_give) (defBody s__law_give) (defScope s__law_give) .none kV20 dc20 pm20 an20 cd20 ct20), sl20⟩) (c20 : codeIn K cd20 "_law_give" = true) (k20 : keepIn K (.ref f20) = true)
(a21 : nsIn K mainGlobals "_law_contract" = some (some (.ref f21))) (l21 : K.lookup f21 = some ⟨oc21, od21, .func (fnOf "_law_contract" "_law_contract" (defArgs s__law_contract) (defBody s__law_contract) (defScope s__law_contract) .none kV21 dc21 pm21 an21 cd21 ct21), sl21⟩) (c21 : codeIn K cd21 "_law_contract" = true) (k21 : keepIn K (.ref f21) = true)
(a22 : nsIn K mainGlobals "_law_drawn" = some (some (.ref f22))) (l22 : K.lookup f22 = some ⟨oc22, od22, .func (fnOf "_law_drawn" "_law_drawn" (defArgs s__law_drawn) (defBody s__law_drawn) (defScope s__law_drawn) .none kV22 dc22 pm22 an22 cd22 ct22), sl22⟩) (c22 : codeIn K cd22 "_law_drawn" = true) (k22 : keepIn K (.ref f22) = true)
(a23 : nsIn K mainGlobals "_law_alike" = some (some (.ref f23))) (l23 : K.lookup f23 = some ⟨oc23, od23, .func (fnOf "_law_alike" "_law_alike" (defArgs s__law_alike) (defBody s__law_alike) (defScope s__law_alike) .none kV23 dc23 pm23 an23 cd23 ct23), sl23⟩) (c23 : codeIn K cd23 "_law_alike" = true) (k23 : keepIn K (.ref f23) = true)
(a24 : nsIn K mainGlobals "_law_text" = some (some (.ref f24))) (l24 : K.lookup f24 = some ⟨oc24, od24, .func (fnOf "_law_text" "_law_text" (defArgs s__law_text) (defBody s__law_text) (defScope s__law_text) .none kV24 dc24 pm24 an24 cd24 ct24), sl24⟩) (c24 : codeIn K cd24 "_law_text" = true) (k24 : keepIn K (.ref f24) = true)
(a25 : nsIn K mainGlobals "_law_refused" = some (some (.ref f25))) (l25 : K.lookup f25 = some ⟨oc25, od25, .func (fnOf "_law_refused" "_law_refused" (defArgs s__law_refused) (defBody s__law_refused) (defScope s__law_refused) .none kV25 dc25 pm25 an25 cd25 ct25), sl25⟩) (c25 : codeIn K cd25 "_law_refused" = true) (k25 : keepIn K (.ref f25) = true)
(a26 : nsIn K mainGlobals "law" = some (some (.ref f26))) (l26 : K.lookup f26 = some ⟨oc26, od26, .func (fnOf "law" "law" (defArgs s_law) (defBody s_law) (defScope s_law) .none kV26 dc26 pm26 an26 cd26 ct26), sl26⟩) (c26 : codeIn K cd26 "law" = true) (k26 : keepIn K (.ref f26) = true)
    (aC_Reader : PySem.W.nsIn K mainGlobals "Reader" = some (some (.ref c_Reader))) (pg_Reader : PySem.W.plainGet K c_Reader Str.empty = true) (hd_Reader : PySem.W.hasDictIn K c_Reader = true) (po_Reader : PySem.W.plainOver K c_Reader = true) (sa_Reader : PySem.W.findIn K (.ref c_Reader) "__setattr__" = some (some (.builtin "object.__setattr__"))) (mk_Reader : PySem.W.makesIn K c_Reader = true) (kc_Reader : PySem.W.keepIn K (.ref c_Reader) = true)
    (n_Reader_text : PySem.W.findIn K (.ref c_Reader) "text" = some none)
    (n_Reader_at : PySem.W.findIn K (.ref c_Reader) "at" = some none)
    (n_Reader_deep : PySem.W.findIn K (.ref c_Reader) "deep" = some none)
    (at_Reader___init__ : PySem.W.findIn K (.ref c_Reader) "__init__" = some (some (.ref f27)))
    (at_Reader_sign : PySem.W.findIn K (.ref c_Reader) "sign" = some (some (.ref f28)))
    (at_Reader_takes : PySem.W.findIn K (.ref c_Reader) "takes" = some (some (.ref f29)))
    (at_Reader_need : PySem.W.findIn K (.ref c_Reader) "need" = some (some (.ref f30)))
    (at_Reader_run : PySem.W.findIn K (.ref c_Reader) "run" = some (some (.ref f31)))
    (at_Reader_number : PySem.W.findIn K (.ref c_Reader) "number" = some (some (.ref f32)))
    (at_Reader_told : PySem.W.findIn K (.ref c_Reader) "told" = some (some (.ref f33)))
    (at_Reader_asked : PySem.W.findIn K (.ref c_Reader) "asked" = some (some (.ref f34)))
    (at_Reader_contract : PySem.W.findIn K (.ref c_Reader) "contract" = some (some (.ref f35)))
    (at_Reader_filled : PySem.W.findIn K (.ref c_Reader) "filled" = some (some (.ref f36)))
    (at_Reader_piece : PySem.W.findIn K (.ref c_Reader) "piece" = some (some (.ref f37)))
(l27 : K.lookup f27 = some ⟨oc27, od27, .func (fnOf "__init__" "Reader.__init__" (defArgs s_Reader___init__) (defBody s_Reader___init__) (defScope s_Reader___init__) .none kV27 dc27 pm27 an27 cd27 ct27), sl27⟩) (c27 : codeIn K cd27 "Reader.__init__" = true) (k27 : keepIn K (.ref f27) = true) (i27 : isFn K (.ref f27) = true)
(l28 : K.lookup f28 = some ⟨oc28, od28, .func (fnOf "sign" "Reader.sign" (defArgs s_Reader_sign) (defBody s_Reader_sign) (defScope s_Reader_sign) .none kV28 dc28 pm28 an28 cd28 ct28), sl28⟩) (c28 : codeIn K cd28 "Reader.sign" = true) (k28 : keepIn K (.ref f28) = true) (i28 : isFn K (.ref f28) = true)
(l29 : K.lookup f29 = some ⟨oc29, od29, .func (fnOf "takes" "Reader.takes" (defArgs s_Reader_takes) (defBody s_Reader_takes) (defScope s_Reader_takes) .none kV29 dc29 pm29 an29 cd29 ct29), sl29⟩) (c29 : codeIn K cd29 "Reader.takes" = true) (k29 : keepIn K (.ref f29) = true) (i29 : isFn K (.ref f29) = true)
(l30 : K.lookup f30 = some ⟨oc30, od30, .func (fnOf "need" "Reader.need" (defArgs s_Reader_need) (defBody s_Reader_need) (defScope s_Reader_need) .none kV30 dc30 pm30 an30 cd30 ct30), sl30⟩) (c30 : codeIn K cd30 "Reader.need" = true) (k30 : keepIn K (.ref f30) = true) (i30 : isFn K (.ref f30) = true)
(l31 : K.lookup f31 = some ⟨oc31, od31, .func (fnOf "run" "Reader.run" (defArgs s_Reader_run) (defBody s_Reader_run) (defScope s_Reader_run) .none kV31 dc31 pm31 an31 cd31 ct31), sl31⟩) (c31 : codeIn K cd31 "Reader.run" = true) (k31 : keepIn K (.ref f31) = true) (i31 : isFn K (.ref f31) = true)
(l32 : K.lookup f32 = some ⟨oc32, od32, .func (fnOf "number" "Reader.number" (defArgs s_Reader_number) (defBody s_Reader_number) (defScope s_Reader_number) .none kV32 dc32 pm32 an32 cd32 ct32), sl32⟩) (c32 : codeIn K cd32 "Reader.number" = true) (k32 : keepIn K (.ref f32) = true) (i32 : isFn K (.ref f32) = true)
(l33 : K.lookup f33 = some ⟨oc33, od33, .func (fnOf "told" "Reader.told" (defArgs s_Reader_told) (defBody s_Reader_told) (defScope s_Reader_told) .none kV33 dc33 pm33 an33 cd33 ct33), sl33⟩) (c33 : codeIn K cd33 "Reader.told" = true) (k33 : keepIn K (.ref f33) = true) (i33 : isFn K (.ref f33) = true)
(l34 : K.lookup f34 = some ⟨oc34, od34, .func (fnOf "asked" "Reader.asked" (defArgs s_Reader_asked) (defBody s_Reader_asked) (defScope s_Reader_asked) .none kV34 dc34 pm34 an34 cd34 ct34), sl34⟩) (c34 : codeIn K cd34 "Reader.asked" = true) (k34 : keepIn K (.ref f34) = true) (i34 : isFn K (.ref f34) = true)
(l35 : K.lookup f35 = some ⟨oc35, od35, .func (fnOf "contract" "Reader.contract" (defArgs s_Reader_contract) (defBody s_Reader_contract) (defScope s_Reader_contract) .none kV35 dc35 pm35 an35 cd35 ct35), sl35⟩) (c35 : codeIn K cd35 "Reader.contract" = true) (k35 : keepIn K (.ref f35) = true) (i35 : isFn K (.ref f35) = true)
(l36 : K.lookup f36 = some ⟨oc36, od36, .func (fnOf "filled" "Reader.filled" (defArgs s_Reader_filled) (defBody s_Reader_filled) (defScope s_Reader_filled) .none kV36 dc36 pm36 an36 cd36 ct36), sl36⟩) (c36 : codeIn K cd36 "Reader.filled" = true) (k36 : keepIn K (.ref f36) = true) (i36 : isFn K (.ref f36) = true)
(l37 : K.lookup f37 = some ⟨oc37, od37, .func (fnOf "piece" "Reader.piece" (defArgs s_Reader_piece) (defBody s_Reader_piece) (defScope s_Reader_piece) .none kV37 dc37 pm37 an37 cd37 ct37), sl37⟩) (c37 : codeIn K cd37 "Reader.piece" = true) (k37 : keepIn K (.ref f37) = true) (i37 : isFn K (.ref f37) = true)
    {t_JOINS : Addr} {odt_JOINS : Option Addr} {tn_JOINS : Nat} {ts_JOINS : Array (Option Value)} {tk0_JOINS tk1_JOINS tk2_JOINS tk3_JOINS tk4_JOINS : Tok}
    (g_JOINS : PySem.W.nsIn K mainGlobals "JOINS" = some (some (.ref t_JOINS))) (w_JOINS : K.lookup t_JOINS = some ⟨.type "tuple", odt_JOINS, .seq #[.str "plus" tk0_JOINS, .str "minus" tk1_JOINS, .str "times" tk2_JOINS, .str "most" tk3_JOINS, .str "least" tk4_JOINS] tn_JOINS, ts_JOINS⟩)
    {tk_SMALL_contracts : Tok} (g_SMALL_contracts : PySem.W.nsIn K mainGlobals "SMALL_contracts" = some (some (.str "abcdefghijklmnopqrstuvwxyz" tk_SMALL_contracts)))
    {t_NONE : Addr} {odt_NONE : Option Addr} {tn_NONE : Nat} {ts_NONE : Array (Option Value)} {tk0_NONE : Tok}
    (g_NONE : PySem.W.nsIn K mainGlobals "NONE" = some (some (.ref t_NONE))) (w_NONE : K.lookup t_NONE = some ⟨.type "tuple", odt_NONE, .seq #[.str "none" tk0_NONE] tn_NONE, ts_NONE⟩)
    {tk_MOST_DEEP : Tok} (g_MOST_DEEP : PySem.W.nsIn K mainGlobals "MOST_DEEP" = some (some (.int 12 tk_MOST_DEEP)))
    {tk_MOST_HOURS : Tok} (g_MOST_HOURS : PySem.W.nsIn K mainGlobals "MOST_HOURS" = some (some (.int 99 tk_MOST_HOURS)))
    {tk_MOST_OFTEN : Tok} (g_MOST_OFTEN : PySem.W.nsIn K mainGlobals "MOST_OFTEN" = some (some (.int 9 tk_MOST_OFTEN)))
    {tk_GREATEST : Tok} (g_GREATEST : PySem.W.nsIn K mainGlobals "GREATEST" = some (some (.int 1000000000000 tk_GREATEST)))
    {tk_SMALL_notes : Tok} (g_SMALL_notes : PySem.W.nsIn K mainGlobals "SMALL_notes" = some (some (.str "abcdefghijklmnopqrstuvwxyz" tk_SMALL_notes)))
    {tk_FIGURES : Tok} (g_FIGURES : PySem.W.nsIn K mainGlobals "FIGURES" = some (some (.str "0123456789" tk_FIGURES)))
    {tk_MOST_SIGNS : Tok} (g_MOST_SIGNS : PySem.W.nsIn K mainGlobals "MOST_SIGNS" = some (some (.int 4000 tk_MOST_SIGNS)))
    {tk_MOST_FIGURES : Tok} (g_MOST_FIGURES : PySem.W.nsIn K mainGlobals "MOST_FIGURES" = some (some (.int 13 tk_MOST_FIGURES)))
    {tk_MOST_OPEN : Tok} (g_MOST_OPEN : PySem.W.nsIn K mainGlobals "MOST_OPEN" = some (some (.int 40 tk_MOST_OPEN)))
    {t_FORMS : Addr} {es_FORMS : Array DictEntry} {n_FORMS : Nat} (g_FORMS : PySem.W.nsIn K mainGlobals "FORMS" = some (some (.ref t_FORMS))) (w_FORMS : K.lookup t_FORMS = some ⟨.type "dict", none, .dict es_FORMS n_FORMS, #[]⟩) (y_FORMS : PySem.W.KeysLit w.params es_FORMS.toList) (o_FORMS : (t_FORMS == sysModules) = false) (e_FORMS : EsOk es_FORMS.toList [("none", ""), ("give", "wwwo"), ("both", "cc"), ("turned", "wwc"), ("later", "nc"), ("often", "nnc"), ("if", "acc"), ("when", "ac"), ("until", "ac")])
    {t_ASKS : Addr} {es_ASKS : Array DictEntry} {n_ASKS : Nat} (g_ASKS : PySem.W.nsIn K mainGlobals "ASKS" = some (some (.ref t_ASKS))) (w_ASKS : K.lookup t_ASKS = some ⟨.type "dict", none, .dict es_ASKS n_ASKS, #[]⟩) (y_ASKS : PySem.W.KeysLit w.params es_ASKS.toList) (o_ASKS : (t_ASKS == sysModules) = false) (e_ASKS : EsOk es_ASKS.toList [("below", "oo"), ("not", "a"), ("all", "aa"), ("any", "aa")])
    {c_BookError : Addr} (xc_BookError : PySem.W.nsIn K mainGlobals "BookError" = some (some (.ref c_BookError)))
    (xg_BookError : PySem.W.findIn K (.ref c_BookError) "__getattribute__" = some (some (.builtin "BaseException.__getattribute__")))
    (xh_BookError : PySem.W.findIn K (.ref c_BookError) "__getattr__" = some none)
    (xs_BookError : PySem.W.subIn K (.ref c_BookError) (.type "BaseException") = some true)
    (xd_BookError : PySem.W.hasDictIn K c_BookError = true)
    (xa_BookError : PySem.W.findIn K (.ref c_BookError) "__class__" = some (some (.builtin "object.__class__")))
    (xm_BookError : PySem.W.mroIn K c_BookError (.type "object") = some true)
    (xq_BookError : PySem.W.excIn K c_BookError [.type "ValueError", .type "Exception", .type "BaseException", .type "object"] "ValueError.__new__" = true)
    (xk_BookError : PySem.W.keepIn K (.ref c_BookError) = true)
    (xt_BookError : PySem.W.typeIn K (.ref c_BookError) = some (.type "type"))
    {c_BadContract : Addr} (xc_BadContract : PySem.W.nsIn K mainGlobals "BadContract" = some (some (.ref c_BadContract)))
    (xg_BadContract : PySem.W.findIn K (.ref c_BadContract) "__getattribute__" = some (some (.builtin "BaseException.__getattribute__")))
    (xh_BadContract : PySem.W.findIn K (.ref c_BadContract) "__getattr__" = some none)
    (xs_BadContract : PySem.W.subIn K (.ref c_BadContract) (.type "BaseException") = some true)
    (xd_BadContract : PySem.W.hasDictIn K c_BadContract = true)
    (xa_BadContract : PySem.W.findIn K (.ref c_BadContract) "__class__" = some (some (.builtin "object.__class__")))
    (xm_BadContract : PySem.W.mroIn K c_BadContract (.type "object") = some true)
    (xq_BadContract : PySem.W.excIn K c_BadContract [.type "ValueError", .type "Exception", .type "BaseException", .type "object"] "ValueError.__new__" = true)
    (xk_BadContract : PySem.W.keepIn K (.ref c_BadContract) = true)
    (xt_BadContract : PySem.W.typeIn K (.ref c_BadContract) = some (.type "type"))
    {c_BadMarket : Addr} (xc_BadMarket : PySem.W.nsIn K mainGlobals "BadMarket" = some (some (.ref c_BadMarket)))
    (xg_BadMarket : PySem.W.findIn K (.ref c_BadMarket) "__getattribute__" = some (some (.builtin "BaseException.__getattribute__")))
    (xh_BadMarket : PySem.W.findIn K (.ref c_BadMarket) "__getattr__" = some none)
    (xs_BadMarket : PySem.W.subIn K (.ref c_BadMarket) (.type "BaseException") = some true)
    (xd_BadMarket : PySem.W.hasDictIn K c_BadMarket = true)
    (xa_BadMarket : PySem.W.findIn K (.ref c_BadMarket) "__class__" = some (some (.builtin "object.__class__")))
    (xm_BadMarket : PySem.W.mroIn K c_BadMarket (.type "object") = some true)
    (xq_BadMarket : PySem.W.excIn K c_BadMarket [.type "ValueError", .type "Exception", .type "BaseException", .type "object"] "ValueError.__new__" = true)
    (xk_BadMarket : PySem.W.keepIn K (.ref c_BadMarket) = true)
    (xt_BadMarket : PySem.W.typeIn K (.ref c_BadMarket) = some (.type "type"))
    {c_TooMany : Addr} (xc_TooMany : PySem.W.nsIn K mainGlobals "TooMany" = some (some (.ref c_TooMany)))
    (xg_TooMany : PySem.W.findIn K (.ref c_TooMany) "__getattribute__" = some (some (.builtin "BaseException.__getattribute__")))
    (xh_TooMany : PySem.W.findIn K (.ref c_TooMany) "__getattr__" = some none)
    (xs_TooMany : PySem.W.subIn K (.ref c_TooMany) (.type "BaseException") = some true)
    (xd_TooMany : PySem.W.hasDictIn K c_TooMany = true)
    (xa_TooMany : PySem.W.findIn K (.ref c_TooMany) "__class__" = some (some (.builtin "object.__class__")))
    (xm_TooMany : PySem.W.mroIn K c_TooMany (.type "object") = some true)
    (xq_TooMany : PySem.W.excIn K c_TooMany [.type "ValueError", .type "Exception", .type "BaseException", .type "object"] "ValueError.__new__" = true)
    (xk_TooMany : PySem.W.keepIn K (.ref c_TooMany) = true)
    (xt_TooMany : PySem.W.typeIn K (.ref c_TooMany) = some (.type "type"))
    {c_BadText : Addr} (xc_BadText : PySem.W.nsIn K mainGlobals "BadText" = some (some (.ref c_BadText)))
    (xg_BadText : PySem.W.findIn K (.ref c_BadText) "__getattribute__" = some (some (.builtin "BaseException.__getattribute__")))
    (xh_BadText : PySem.W.findIn K (.ref c_BadText) "__getattr__" = some none)
    (xs_BadText : PySem.W.subIn K (.ref c_BadText) (.type "BaseException") = some true)
    (xd_BadText : PySem.W.hasDictIn K c_BadText = true)
    (xa_BadText : PySem.W.findIn K (.ref c_BadText) "__class__" = some (some (.builtin "object.__class__")))
    (xm_BadText : PySem.W.mroIn K c_BadText (.type "object") = some true)
    (xq_BadText : PySem.W.excIn K c_BadText [.type "ValueError", .type "Exception", .type "BaseException", .type "object"] "ValueError.__new__" = true)
    (xk_BadText : PySem.W.keepIn K (.ref c_BadText) = true)
    (xt_BadText : PySem.W.typeIn K (.ref c_BadText) = some (.type "type"))
    (xn : PySem.W.specialIn K (.builtin "object.__class__") "__get__" = some (some (.builtin "getset_descriptor.__get__"))) (xt : PySem.W.takesIn K (.builtin "object.__class__") = some true)
    (xv_BadContract : PySem.W.subIn K (.ref c_BadContract) (.type "ValueError") = some true)
    (xs_BadContract_BookError : PySem.W.subIn K (.ref c_BadContract) (.ref c_BookError) = some true)
    (xs_BadContract_BadContract : PySem.W.subIn K (.ref c_BadContract) (.ref c_BadContract) = some true)
    (xs_BadContract_BadMarket : PySem.W.subIn K (.ref c_BadContract) (.ref c_BadMarket) = some false)
    (xs_BadContract_TooMany : PySem.W.subIn K (.ref c_BadContract) (.ref c_TooMany) = some false)
    (xs_BadContract_BadText : PySem.W.subIn K (.ref c_BadContract) (.ref c_BadText) = some false)
    (xv_BadMarket : PySem.W.subIn K (.ref c_BadMarket) (.type "ValueError") = some true)
    (xs_BadMarket_BookError : PySem.W.subIn K (.ref c_BadMarket) (.ref c_BookError) = some true)
    (xs_BadMarket_BadContract : PySem.W.subIn K (.ref c_BadMarket) (.ref c_BadContract) = some false)
    (xs_BadMarket_BadMarket : PySem.W.subIn K (.ref c_BadMarket) (.ref c_BadMarket) = some true)
    (xs_BadMarket_TooMany : PySem.W.subIn K (.ref c_BadMarket) (.ref c_TooMany) = some false)
    (xs_BadMarket_BadText : PySem.W.subIn K (.ref c_BadMarket) (.ref c_BadText) = some false)
    (xv_TooMany : PySem.W.subIn K (.ref c_TooMany) (.type "ValueError") = some true)
    (xs_TooMany_BookError : PySem.W.subIn K (.ref c_TooMany) (.ref c_BookError) = some true)
    (xs_TooMany_BadContract : PySem.W.subIn K (.ref c_TooMany) (.ref c_BadContract) = some false)
    (xs_TooMany_BadMarket : PySem.W.subIn K (.ref c_TooMany) (.ref c_BadMarket) = some false)
    (xs_TooMany_TooMany : PySem.W.subIn K (.ref c_TooMany) (.ref c_TooMany) = some true)
    (xs_TooMany_BadText : PySem.W.subIn K (.ref c_TooMany) (.ref c_BadText) = some false)
    (xv_BadText : PySem.W.subIn K (.ref c_BadText) (.type "ValueError") = some true)
    (xs_BadText_BookError : PySem.W.subIn K (.ref c_BadText) (.ref c_BookError) = some true)
    (xs_BadText_BadContract : PySem.W.subIn K (.ref c_BadText) (.ref c_BadContract) = some false)
    (xs_BadText_BadMarket : PySem.W.subIn K (.ref c_BadText) (.ref c_BadMarket) = some false)
    (xs_BadText_TooMany : PySem.W.subIn K (.ref c_BadText) (.ref c_TooMany) = some false)
    (xs_BadText_BadText : PySem.W.subIn K (.ref c_BadText) (.ref c_BadText) = some true)
    (xs_B : PySem.W.subIn K (.ref c_BookError) (.ref c_BookError) = some true)
    {ocS : Value} {odS : Option Addr} {nS : Nat} {slS : Array (Option Value)} (wS : K.lookup PySem.cStatics = some ⟨ocS, odS, .dict #[] nS, slS⟩)
    (HS : PySem.W.findIn K (.ref c_BadContract) "__str__" = some (some (.builtin "BaseException.__str__")))
    (z_ValueError : PySem.W.nsIn K mainGlobals "ValueError" = some none)
    (z_int : PySem.W.nsIn K mainGlobals "int" = some none)
    (z_range : PySem.W.nsIn K mainGlobals "range" = some none)
    (z_isinstance : PySem.W.nsIn K mainGlobals "isinstance" = some none)
    (z_bool : PySem.W.nsIn K mainGlobals "bool" = some none)
    (z_str : PySem.W.nsIn K mainGlobals "str" = some none)
    (z_dict : PySem.W.nsIn K mainGlobals "dict" = some none)
    (z_all : PySem.W.nsIn K mainGlobals "all" = some none)
    (z_tuple : PySem.W.nsIn K mainGlobals "tuple" = some none)
    (z_len : PySem.W.nsIn K mainGlobals "len" = some none)
    (z_list : PySem.W.nsIn K mainGlobals "list" = some none)
    : ∃ fd : FuncData, (∀ (s : Shared) (v : Value), BindsTo s fd ⟨[v], []⟩ [("_law_script", v)]) ∧ ∀ base : Heap, K.In base → base.Ns mainGlobals mg → FnOk l.prog w K mg base CX0 (230) fa fd ["_law_script"] (liftSp K (spLaw K)) := by
  have e := hfa.symm.trans (PySem.W.mg_of X G a26)
  cases e
  have F_must := fun_mk (st := s_must) l0 c0 k0
  have D_must : Df K mg "must" f0 _ ["good"] := ⟨F_must.binds (ps := ["good"]) fun _ _ _ _ _ _ us hl => match us, hl with | [_], _ => rfl, k0, mg_of X G a0⟩
  have F_is_word := fun_mk (st := s_is_word) l1 c1 k1
  have D_is_word : Df K mg "is_word" f1 _ ["word"] := ⟨F_is_word.binds (ps := ["word"]) fun _ _ _ _ _ _ us hl => match us, hl with | [_], _ => rfl, k1, mg_of X G a1⟩
  have F_need_number := fun_mk (st := s_need_number) l2 c2 k2
  have D_need_number : Df K mg "need_number" f2 _ ["number", "least", "most"] := ⟨F_need_number.binds (ps := ["number", "least", "most"]) fun _ _ _ _ _ _ us hl => match us, hl with | [_, _, _], _ => rfl, k2, mg_of X G a2⟩
  have F_need_tuple := fun_mk (st := s_need_tuple) l3 c3 k3
  have D_need_tuple : Df K mg "need_tuple" f3 _ ["told", "deep"] := ⟨F_need_tuple.binds (ps := ["told", "deep"]) fun _ _ _ _ _ _ us hl => match us, hl with | [_, _], _ => rfl, k3, mg_of X G a3⟩
  have F_need_told := fun_mk (st := s_need_told) l4 c4 k4
  have D_need_told : Df K mg "need_told" f4 _ ["told", "deep"] := ⟨F_need_told.binds (ps := ["told", "deep"]) fun _ _ _ _ _ _ us hl => match us, hl with | [_, _], _ => rfl, k4, mg_of X G a4⟩
  have F_need_asked := fun_mk (st := s_need_asked) l5 c5 k5
  have D_need_asked : Df K mg "need_asked" f5 _ ["asked", "deep"] := ⟨F_need_asked.binds (ps := ["asked", "deep"]) fun _ _ _ _ _ _ us hl => match us, hl with | [_, _], _ => rfl, k5, mg_of X G a5⟩
  have F_need_sides := fun_mk (st := s_need_sides) l6 c6 k6
  have D_need_sides : Df K mg "need_sides" f6 _ ["one", "other"] := ⟨F_need_sides.binds (ps := ["one", "other"]) fun _ _ _ _ _ _ us hl => match us, hl with | [_, _], _ => rfl, k6, mg_of X G a6⟩
  have F_look := fun_mk (st := s_look) l7 c7 k7
  have D_look : Df K mg "look" f7 _ ["contract", "deep"] := ⟨F_look.binds (ps := ["contract", "deep"]) fun _ _ _ _ _ _ us hl => match us, hl with | [_, _], _ => rfl, k7, mg_of X G a7⟩
  have F_need_contract := fun_mk (st := s_need_contract) l8 c8 k8
  have D_need_contract : Df K mg "need_contract" f8 _ ["contract"] := ⟨F_need_contract.binds (ps := ["contract"]) fun _ _ _ _ _ _ us hl => match us, hl with | [_], _ => rfl, k8, mg_of X G a8⟩
  have F_within := fun_mk (st := s_within) l9 c9 k9
  have D_within : Df K mg "within" f9 _ ["contract"] := ⟨F_within.binds (ps := ["contract"]) fun _ _ _ _ _ _ us hl => match us, hl with | [_], _ => rfl, k9, mg_of X G a9⟩
  have F_read := fun_mk (st := s_read) l10 c10 k10
  have D_read : Df K mg "read" f10 _ ["text"] := ⟨F_read.binds (ps := ["text"]) fun _ _ _ _ _ _ us hl => match us, hl with | [_], _ => rfl, k10, mg_of X G a10⟩
  have F_need_read := fun_mk (st := s_need_read) l11 c11 k11
  have D_need_read : Df K mg "need_read" f11 _ ["contract"] := ⟨F_need_read.binds (ps := ["contract"]) fun _ _ _ _ _ _ us hl => match us, hl with | [_], _ => rfl, k11, mg_of X G a11⟩
  have F__law_begun := fun_mk (st := s__law_begun) l12 c12 k12
  have D__law_begun : Df K mg "_law_begun" f12 _ ["_law_script"] := ⟨F__law_begun.binds (ps := ["_law_script"]) fun _ _ _ _ _ _ us hl => match us, hl with | [_], _ => rfl, k12, mg_of X G a12⟩
  have F__law_taken := fun_mk (st := s__law_taken) l13 c13 k13
  have D__law_taken : Df K mg "_law_taken" f13 _ ["_law_s", "_law_most"] := ⟨F__law_taken.binds (ps := ["_law_s", "_law_most"]) fun _ _ _ _ _ _ us hl => match us, hl with | [_, _], _ => rfl, k13, mg_of X G a13⟩
  have F__law_word := fun_mk (st := s__law_word) l14 c14 k14
  have D__law_word : Df K mg "_law_word" f14 _ ["_law_s", "_law_k"] := ⟨F__law_word.binds (ps := ["_law_s", "_law_k"]) fun _ _ _ _ _ _ us hl => match us, hl with | [_, _], _ => rfl, k14, mg_of X G a14⟩
  have F__law_number := fun_mk (st := s__law_number) l15 c15 k15
  have D__law_number : Df K mg "_law_number" f15 _ ["_law_s"] := ⟨F__law_number.binds (ps := ["_law_s"]) fun _ _ _ _ _ _ us hl => match us, hl with | [_], _ => rfl, k15, mg_of X G a15⟩
  have F__law_told := fun_mk (st := s__law_told) l16 c16 k16
  have D__law_told : Df K mg "_law_told" f16 _ ["_law_s", "_law_deep"] := ⟨F__law_told.binds (ps := ["_law_s", "_law_deep"]) fun _ _ _ _ _ _ us hl => match us, hl with | [_, _], _ => rfl, k16, mg_of X G a16⟩
  have F__law_asked := fun_mk (st := s__law_asked) l17 c17 k17
  have D__law_asked : Df K mg "_law_asked" f17 _ ["_law_s", "_law_deep"] := ⟨F__law_asked.binds (ps := ["_law_s", "_law_deep"]) fun _ _ _ _ _ _ us hl => match us, hl with | [_, _], _ => rfl, k17, mg_of X G a17⟩
  have F__law_sides := fun_mk (st := s__law_sides) l18 c18 k18
  have D__law_sides : Df K mg "_law_sides" f18 _ ["_law_s"] := ⟨F__law_sides.binds (ps := ["_law_s"]) fun _ _ _ _ _ _ us hl => match us, hl with | [_], _ => rfl, k18, mg_of X G a18⟩
  have F__law_good := fun_mk (st := s__law_good) l19 c19 k19
  have D__law_good : Df K mg "_law_good" f19 _ ["_law_s"] := ⟨F__law_good.binds (ps := ["_law_s"]) fun _ _ _ _ _ _ us hl => match us, hl with | [_], _ => rfl, k19, mg_of X G a19⟩
  have F__law_give := fun_mk (st := s__law_give) l20 c20 k20
  have D__law_give : Df K mg "_law_give" f20 _ ["_law_s"] := ⟨F__law_give.binds (ps := ["_law_s"]) fun _ _ _ _ _ _ us hl => match us, hl with | [_], _ => rfl, k20, mg_of X G a20⟩
  have F__law_contract := fun_mk (st := s__law_contract) l21 c21 k21
  have D__law_contract : Df K mg "_law_contract" f21 _ ["_law_s", "_law_deep"] := ⟨F__law_contract.binds (ps := ["_law_s", "_law_deep"]) fun _ _ _ _ _ _ us hl => match us, hl with | [_, _], _ => rfl, k21, mg_of X G a21⟩
  have F__law_drawn := fun_mk (st := s__law_drawn) l22 c22 k22
  have D__law_drawn : Df K mg "_law_drawn" f22 _ ["_law_s", "_law_many"] := ⟨F__law_drawn.binds (ps := ["_law_s", "_law_many"]) fun _ _ _ _ _ _ us hl => match us, hl with | [_, _], _ => rfl, k22, mg_of X G a22⟩
  have F__law_alike := fun_mk (st := s__law_alike) l23 c23 k23
  have D__law_alike : Df K mg "_law_alike" f23 _ ["_law_found", "_law_due"] := ⟨F__law_alike.binds (ps := ["_law_found", "_law_due"]) fun _ _ _ _ _ _ us hl => match us, hl with | [_, _], _ => rfl, k23, mg_of X G a23⟩
  have F__law_text := fun_mk (st := s__law_text) l24 c24 k24
  have D__law_text : Df K mg "_law_text" f24 _ ["_law_told_here"] := ⟨F__law_text.binds (ps := ["_law_told_here"]) fun _ _ _ _ _ _ us hl => match us, hl with | [_], _ => rfl, k24, mg_of X G a24⟩
  have F__law_refused := fun_mk (st := s__law_refused) l25 c25 k25
  have D__law_refused : Df K mg "_law_refused" f25 _ ["_law_text_here"] := ⟨F__law_refused.binds (ps := ["_law_text_here"]) fun _ _ _ _ _ _ us hl => match us, hl with | [_], _ => rfl, k25, mg_of X G a25⟩
  have F_law := fun_mk (st := s_law) l26 c26 k26
  have F_Reader___init__ := fun_mk (st := s_Reader___init__) l27 c27 k27
  have B_Reader___init__ := F_Reader___init__.binds (ps := ["self", "text"]) fun _ _ _ _ _ _ us hl => match us, hl with | [_, _], _ => rfl
  have F_Reader_sign := fun_mk (st := s_Reader_sign) l28 c28 k28
  have B_Reader_sign := F_Reader_sign.binds (ps := ["self"]) fun _ _ _ _ _ _ us hl => match us, hl with | [_], _ => rfl
  have F_Reader_takes := fun_mk (st := s_Reader_takes) l29 c29 k29
  have B_Reader_takes := F_Reader_takes.binds (ps := ["self", "sign"]) fun _ _ _ _ _ _ us hl => match us, hl with | [_, _], _ => rfl
  have F_Reader_need := fun_mk (st := s_Reader_need) l30 c30 k30
  have B_Reader_need := F_Reader_need.binds (ps := ["self", "sign"]) fun _ _ _ _ _ _ us hl => match us, hl with | [_, _], _ => rfl
  have F_Reader_run := fun_mk (st := s_Reader_run) l31 c31 k31
  have B_Reader_run := F_Reader_run.binds (ps := ["self", "signs", "most"]) fun _ _ _ _ _ _ us hl => match us, hl with | [_, _, _], _ => rfl
  have F_Reader_number := fun_mk (st := s_Reader_number) l32 c32 k32
  have B_Reader_number := F_Reader_number.binds (ps := ["self"]) fun _ _ _ _ _ _ us hl => match us, hl with | [_], _ => rfl
  have F_Reader_told := fun_mk (st := s_Reader_told) l33 c33 k33
  have B_Reader_told := F_Reader_told.binds (ps := ["self"]) fun _ _ _ _ _ _ us hl => match us, hl with | [_], _ => rfl
  have F_Reader_asked := fun_mk (st := s_Reader_asked) l34 c34 k34
  have B_Reader_asked := F_Reader_asked.binds (ps := ["self"]) fun _ _ _ _ _ _ us hl => match us, hl with | [_], _ => rfl
  have F_Reader_contract := fun_mk (st := s_Reader_contract) l35 c35 k35
  have B_Reader_contract := F_Reader_contract.binds (ps := ["self"]) fun _ _ _ _ _ _ us hl => match us, hl with | [_], _ => rfl
  have F_Reader_filled := fun_mk (st := s_Reader_filled) l36 c36 k36
  have B_Reader_filled := F_Reader_filled.binds (ps := ["self", "word", "form"]) fun _ _ _ _ _ _ us hl => match us, hl with | [_, _, _], _ => rfl
  have F_Reader_piece := fun_mk (st := s_Reader_piece) l37 c37 k37
  have B_Reader_piece := F_Reader_piece.binds (ps := ["self", "sort"]) fun _ _ _ _ _ _ us hl => match us, hl with | [_, _], _ => rfl
  have O_Reader : ObK K c_Reader ["text", "at", "deep"] := ⟨⟨pg_Reader, hd_Reader, po_Reader, sa_Reader⟩, (na_cons n_Reader_text (na_cons n_Reader_at (na_cons n_Reader_deep na_nil)))⟩
  have C_Reader : Dc K mg "Reader" c_Reader f27 _ ["self", "text"] := ⟨PySem.W.mg_of X G aC_Reader, B_Reader___init__, ⟨mk_Reader, at_Reader___init__, i27, kc_Reader⟩⟩
  have D_Reader_sign : Dm K c_Reader "sign" f28 _ ["self"] := ⟨O_Reader.cl, B_Reader_sign, ⟨at_Reader_sign, i28, k28⟩⟩
  have D_Reader_takes : Dm K c_Reader "takes" f29 _ ["self", "sign"] := ⟨O_Reader.cl, B_Reader_takes, ⟨at_Reader_takes, i29, k29⟩⟩
  have D_Reader_need : Dm K c_Reader "need" f30 _ ["self", "sign"] := ⟨O_Reader.cl, B_Reader_need, ⟨at_Reader_need, i30, k30⟩⟩
  have D_Reader_run : Dm K c_Reader "run" f31 _ ["self", "signs", "most"] := ⟨O_Reader.cl, B_Reader_run, ⟨at_Reader_run, i31, k31⟩⟩
  have D_Reader_number : Dm K c_Reader "number" f32 _ ["self"] := ⟨O_Reader.cl, B_Reader_number, ⟨at_Reader_number, i32, k32⟩⟩
  have D_Reader_told : Dm K c_Reader "told" f33 _ ["self"] := ⟨O_Reader.cl, B_Reader_told, ⟨at_Reader_told, i33, k33⟩⟩
  have D_Reader_asked : Dm K c_Reader "asked" f34 _ ["self"] := ⟨O_Reader.cl, B_Reader_asked, ⟨at_Reader_asked, i34, k34⟩⟩
  have D_Reader_contract : Dm K c_Reader "contract" f35 _ ["self"] := ⟨O_Reader.cl, B_Reader_contract, ⟨at_Reader_contract, i35, k35⟩⟩
  have D_Reader_filled : Dm K c_Reader "filled" f36 _ ["self", "word", "form"] := ⟨O_Reader.cl, B_Reader_filled, ⟨at_Reader_filled, i36, k36⟩⟩
  have D_Reader_piece : Dm K c_Reader "piece" f37 _ ["self", "sort"] := ⟨O_Reader.cl, B_Reader_piece, ⟨at_Reader_piece, i37, k37⟩⟩
  have V : Gv K mg := { JOINS := gl_tupS (zs := ["plus", "minus", "times", "most", "least"]) (PySem.W.mg_of X G g_JOINS) w_JOINS rfl rfl (by show 5 ≤ sizeLine; decide) (.cons ⟨_, rfl⟩ (.cons ⟨_, rfl⟩ (.cons ⟨_, rfl⟩ (.cons ⟨_, rfl⟩ (.cons ⟨_, rfl⟩ (.nil)))))) (by decide), SMALL_contracts := ⟨.str "abcdefghijklmnopqrstuvwxyz", _, PySem.W.mg_of X G g_SMALL_contracts, ⟨_, rfl⟩, fun _ => Rep.str⟩, NONE := gl_tupS (zs := ["none"]) (PySem.W.mg_of X G g_NONE) w_NONE rfl rfl (by show 1 ≤ sizeLine; decide) (.cons ⟨_, rfl⟩ (.nil)) (by decide), MOST_DEEP := ⟨.int 12, _, PySem.W.mg_of X G g_MOST_DEEP, ⟨_, rfl⟩, fun _ => Rep.int⟩, MOST_HOURS := ⟨.int 99, _, PySem.W.mg_of X G g_MOST_HOURS, ⟨_, rfl⟩, fun _ => Rep.int⟩, MOST_OFTEN := ⟨.int 9, _, PySem.W.mg_of X G g_MOST_OFTEN, ⟨_, rfl⟩, fun _ => Rep.int⟩, GREATEST := ⟨.int 1000000000000, _, PySem.W.mg_of X G g_GREATEST, ⟨_, rfl⟩, fun _ => Rep.int⟩, SMALL_notes := ⟨.str "abcdefghijklmnopqrstuvwxyz", _, PySem.W.mg_of X G g_SMALL_notes, ⟨_, rfl⟩, fun _ => Rep.str⟩, FIGURES := ⟨.str "0123456789", _, PySem.W.mg_of X G g_FIGURES, ⟨_, rfl⟩, fun _ => Rep.str⟩, MOST_SIGNS := ⟨.int 4000, _, PySem.W.mg_of X G g_MOST_SIGNS, ⟨_, rfl⟩, fun _ => Rep.int⟩, MOST_FIGURES := ⟨.int 13, _, PySem.W.mg_of X G g_MOST_FIGURES, ⟨_, rfl⟩, fun _ => Rep.int⟩, MOST_OPEN := ⟨.int 40, _, PySem.W.mg_of X G g_MOST_OPEN, ⟨_, rfl⟩, fun _ => Rep.int⟩ }
  have Dg : Gd K w mg t_FORMS t_ASKS := { FORMS := ⟨.ref t_FORMS, _, PySem.W.mg_of X G g_FORMS, rfl, fun _ => Rep.ref⟩, d_FORMS := KdD.of w_FORMS y_FORMS o_FORMS e_FORMS, ASKS := ⟨.ref t_ASKS, _, PySem.W.mg_of X G g_ASKS, rfl, fun _ => Rep.ref⟩, d_ASKS := KdD.of w_ASKS y_ASKS o_ASKS e_ASKS }
  have XX : XcF K mg "BookError" c_BookError ∧ XcF K mg "BadContract" c_BadContract ∧ XcF K mg "BadMarket" c_BadMarket ∧ XcF K mg "TooMany" c_TooMany ∧ XcF K mg "BadText" c_BadText := ⟨⟨PySem.W.mg_of X G xc_BookError, xq_BookError, xk_BookError, xt_BookError, ⟨xg_BookError, xh_BookError, xs_BookError, xd_BookError, xa_BookError, xn, xt, xm_BookError⟩⟩, ⟨PySem.W.mg_of X G xc_BadContract, xq_BadContract, xk_BadContract, xt_BadContract, ⟨xg_BadContract, xh_BadContract, xs_BadContract, xd_BadContract, xa_BadContract, xn, xt, xm_BadContract⟩⟩, ⟨PySem.W.mg_of X G xc_BadMarket, xq_BadMarket, xk_BadMarket, xt_BadMarket, ⟨xg_BadMarket, xh_BadMarket, xs_BadMarket, xd_BadMarket, xa_BadMarket, xn, xt, xm_BadMarket⟩⟩, ⟨PySem.W.mg_of X G xc_TooMany, xq_TooMany, xk_TooMany, xt_TooMany, ⟨xg_TooMany, xh_TooMany, xs_TooMany, xd_TooMany, xa_TooMany, xn, xt, xm_TooMany⟩⟩, ⟨PySem.W.mg_of X G xc_BadText, xq_BadText, xk_BadText, xt_BadText, ⟨xg_BadText, xh_BadText, xs_BadText, xd_BadText, xa_BadText, xn, xt, xm_BadText⟩⟩⟩
  obtain ⟨X_BookError, X_BadContract, X_BadMarket, X_TooMany, X_BadText⟩ := XX
  have XE : Xcs K mg c_BookError c_BadContract c_BadMarket c_TooMany c_BadText := { X_BookError := X_BookError, X_BadContract := X_BadContract, X_BadMarket := X_BadMarket, X_TooMany := X_TooMany, X_BadText := X_BadText, e_BadContract := X_BookError.exm xs_BadContract_BookError, s_BadContract := X_BadContract.exm xs_BadContract_BadContract, v_BadContract := kit_val xv_BadContract, k_BadContract_BookError := X_BookError.kit xs_BadContract_BookError xs_B, k_BadContract_BadContract := X_BadContract.kit xs_BadContract_BadContract xs_BadContract_BadContract, k_BadContract_BadMarket := X_BadMarket.kit xs_BadContract_BadMarket xs_BadMarket_BadMarket, k_BadContract_TooMany := X_TooMany.kit xs_BadContract_TooMany xs_TooMany_TooMany, k_BadContract_BadText := X_BadText.kit xs_BadContract_BadText xs_BadText_BadText, e_BadMarket := X_BookError.exm xs_BadMarket_BookError, s_BadMarket := X_BadMarket.exm xs_BadMarket_BadMarket, v_BadMarket := kit_val xv_BadMarket, k_BadMarket_BookError := X_BookError.kit xs_BadMarket_BookError xs_B, k_BadMarket_BadContract := X_BadContract.kit xs_BadMarket_BadContract xs_BadContract_BadContract, k_BadMarket_BadMarket := X_BadMarket.kit xs_BadMarket_BadMarket xs_BadMarket_BadMarket, k_BadMarket_TooMany := X_TooMany.kit xs_BadMarket_TooMany xs_TooMany_TooMany, k_BadMarket_BadText := X_BadText.kit xs_BadMarket_BadText xs_BadText_BadText, e_TooMany := X_BookError.exm xs_TooMany_BookError, s_TooMany := X_TooMany.exm xs_TooMany_TooMany, v_TooMany := kit_val xv_TooMany, k_TooMany_BookError := X_BookError.kit xs_TooMany_BookError xs_B, k_TooMany_BadContract := X_BadContract.kit xs_TooMany_BadContract xs_BadContract_BadContract, k_TooMany_BadMarket := X_BadMarket.kit xs_TooMany_BadMarket xs_BadMarket_BadMarket, k_TooMany_TooMany := X_TooMany.kit xs_TooMany_TooMany xs_TooMany_TooMany, k_TooMany_BadText := X_BadText.kit xs_TooMany_BadText xs_BadText_BadText, e_BadText := X_BookError.exm xs_BadText_BookError, s_BadText := X_BadText.exm xs_BadText_BadText, v_BadText := kit_val xv_BadText, k_BadText_BookError := X_BookError.kit xs_BadText_BookError xs_B, k_BadText_BadContract := X_BadContract.kit xs_BadText_BadContract xs_BadContract_BadContract, k_BadText_BadMarket := X_BadMarket.kit xs_BadText_BadMarket xs_BadMarket_BadMarket, k_BadText_TooMany := X_TooMany.kit xs_BadText_TooMany xs_TooMany_TooMany, k_BadText_BadText := X_BadText.kit xs_BadText_BadText xs_BadText_BadText }
  have NB : NoBk K := ⟨_, _, _, _, wS⟩
  have Z : Bl mg := ⟨PySem.W.mg_none_of X G z_ValueError, PySem.W.mg_none_of X G z_int, PySem.W.mg_none_of X G z_range, PySem.W.mg_none_of X G z_isinstance, PySem.W.mg_none_of X G z_bool, PySem.W.mg_none_of X G z_str, PySem.W.mg_none_of X G z_dict, PySem.W.mg_none_of X G z_all, PySem.W.mg_none_of X G z_tuple, PySem.W.mg_none_of X G z_len, PySem.W.mg_none_of X G z_list⟩
  refine ⟨PySem.W.fnOf "law" "law" (defArgs s_law) (defBody s_law) (defScope s_law) .none kV26 dc26 pm26 an26 cd26 ct26, fun s v => .of_eq rfl, fun base _ _ => ?_⟩
  have G__law_taken := ok_law_taken (P := l.prog) (w := w) (base := base) Z (k := 10) F__law_taken
  have G__law_number := ok_law_number (P := l.prog) (w := w) (base := base) D__law_taken G__law_taken F__law_number
  have G__law_told := fin_law_told Z D__law_taken (G__law_taken.mono (show 11 ≤ 12 by omega)) D__law_number G__law_number D__law_told F__law_told
  have G__law_begun := ok_law_begun Z D__law_taken G__law_taken F__law_begun
  have G__law_word := ok_law_word (P := l.prog) (w := w) (base := base) Z (k := 10) F__law_word
  have G__law_sides := ok_law_sides Z D__law_taken G__law_taken D__law_word G__law_word F__law_sides
  have G__law_good := ok_law_good Z D__law_taken G__law_taken D__law_word G__law_word F__law_good
  have G__law_give := ok_law_give Z D__law_sides (G__law_sides.mono (show 12 ≤ 20 by omega)) D__law_good (G__law_good.mono (show 12 ≤ 20 by omega)) D__law_told ((G__law_told 3).mono (show 12 + 3 ≤ 20 by omega)) F__law_give
  have G__law_asked := fin_law_asked Z D__law_taken (G__law_taken.mono (show 11 ≤ 20 by omega)) D__law_told ((G__law_told 2).mono (show 12 + 2 ≤ 20 by omega)) D__law_asked F__law_asked
  have G__law_contract := fin_law_contract Z D__law_taken (G__law_taken.mono (show 11 ≤ 30 by omega)) D__law_give (G__law_give.mono (show 21 ≤ 30 by omega)) D__law_sides (G__law_sides.mono (show 12 ≤ 30 by omega)) D__law_asked ((G__law_asked 3).mono (show 20 + 3 ≤ 30 by omega)) D__law_contract F__law_contract
  have G__law_drawn := ok_law_drawn Z D__law_taken (G__law_taken.mono (show 11 ≤ 40 by omega)) D__law_word (G__law_word.mono (show 11 ≤ 40 by omega)) D__law_sides (G__law_sides.mono (show 12 ≤ 40 by omega)) D__law_good (G__law_good.mono (show 12 ≤ 40 by omega)) D__law_told ((G__law_told 2).mono (show 12 + 2 ≤ 40 by omega)) D__law_asked ((G__law_asked 1).mono (show 20 + 1 ≤ 40 by omega)) D__law_contract ((G__law_contract 4).mono (show 30 + 4 ≤ 40 by omega)) F__law_drawn
  have G__law_alike := fin_law_alike (P := l.prog) (w := w) (base := base) (c := 10) Z D__law_alike F__law_alike
  have G_within := gok_within (mg := mg) (P := l.prog) (w := w) (base := base) (k := 10) F_within
  have G_must := gok_must (P := l.prog) (w := w) (base := base) (k := 10) XE F_must
  have G_is_word := gok_is_word (P := l.prog) (w := w) (base := base) (k := 10) V Z F_is_word
  have G_need_number := gok_need_number Z D_must G_must F_need_number
  have G_need_tuple := gok_need_tuple V Z D_must G_must F_need_tuple
  have G_need_told := gfin_need_told (c := 20) V Z D_must (G_must.mono (by omega)) D_need_tuple (G_need_tuple.mono (by omega)) D_need_number (G_need_number.mono (by omega)) D_is_word (G_is_word.mono (by omega)) D_need_told F_need_told
  have G_need_asked := gfin_need_asked (c := 20) V Z D_must (G_must.mono (by omega)) D_need_tuple (G_need_tuple.mono (by omega)) D_need_told G_need_told D_need_asked F_need_asked
  have G_need_sides := gok_need_sides D_must G_must D_is_word G_is_word F_need_sides
  have G_look := gfin_look (c := 20) V Z D_must (G_must.mono (by omega)) D_need_tuple (G_need_tuple.mono (by omega)) D_need_number (G_need_number.mono (by omega)) D_is_word (G_is_word.mono (by omega)) D_need_sides (G_need_sides.mono (by omega)) D_need_told G_need_told D_need_asked G_need_asked D_within (G_within.mono (by omega)) D_look F_look
  have G_need_contract := gok_need_contract D_look (G_look 13) F_need_contract
  have G_Reader___init__ := ok_Reader___init__ (mg := mg) (P := l.prog) (w := w) (base := base) (k := 10) O_Reader F_Reader___init__
  have G_Reader_sign := ok_Reader_sign (mg := mg) (P := l.prog) (w := w) (base := base) (k := 10) O_Reader F_Reader_sign
  have G_Reader_takes := ok_Reader_takes O_Reader D_Reader_sign G_Reader_sign F_Reader_takes
  have G_Reader_need := ok_Reader_need XE O_Reader D_Reader_takes G_Reader_takes F_Reader_need
  have G_Reader_run := ok_Reader_run XE O_Reader D_Reader_sign G_Reader_sign F_Reader_run
  have G_Reader_number := ok_Reader_number (k := 14) V Z XE O_Reader D_Reader_takes (G_Reader_takes.mono (by omega)) D_Reader_run (G_Reader_run.mono (by omega)) F_Reader_number
  have G_Reader_filled := fin_Reader_filled (c := 20) V Z Dg XE O_Reader D_Reader_sign (G_Reader_sign.mono (by omega)) D_Reader_need (G_Reader_need.mono (by omega)) D_Reader_run (G_Reader_run.mono (by omega)) D_Reader_number (G_Reader_number.mono (by omega)) D_Reader_told F_Reader_told D_Reader_asked F_Reader_asked D_Reader_contract F_Reader_contract D_Reader_piece F_Reader_piece D_Reader_filled F_Reader_filled
  have G_Reader_contract := ok_Reader_contract (k := 141) V Dg XE O_Reader D_Reader_run (G_Reader_run.mono (by omega)) D_Reader_filled (G_Reader_filled 40) F_Reader_contract
  have G_need_read := ok_need_readX Z XE HS D_need_contract G_need_contract F_need_read
  have G_read := ok_read (k := 200) (tot := True) V Z XE O_Reader C_Reader (G_Reader___init__.mono (by omega)) D_Reader_contract (G_Reader_contract.mono (by omega)) D_Reader_sign (G_Reader_sign.mono (by omega)) D_need_read (G_need_read.mono (by omega)) F_read
  have G__law_refused := ok_law_refusedT Z XE D_read G_read F__law_refused
  have G__law_text := fin_law_text (P := l.prog) (w := w) (base := base) (c := 10) Z D__law_text F__law_text
  have G_need_contract := G_need_contract.weakB.calm
  exact ok_law (k := 229) Z XE NB D__law_begun (G__law_begun.mono (by omega)) D__law_taken (G__law_taken.mono (by omega)) D__law_drawn (G__law_drawn.mono (by omega)) D__law_text ((G__law_text 14).mono (by omega)) D__law_alike ((G__law_alike 20).mono (by omega)) D_read (G_read.mono (by omega)) D__law_refused (G__law_refused.mono (by omega)) D_need_contract (G_need_contract.mono (by omega)) F_law
theorem walk {l : PySem.W.OpenLaw} {q : Program} {loose : List Str} {XP : (Str → Option Value) → Heap → Prop} {YP : World → Heap → Prop} {d : DefRec} {K : Params → PySem.W.Frag} (hn : l.most = some 63) (hdf : d.params.defaults = [])
    (hY : ∀ (w : World) (h : Heap), YP w h → (K w.params).In h)
    (F : ∀ (w : World) (mg : Str → Option Value) (fa : Addr) (h : Heap), (K w.params).In h → h.Ns mainGlobals mg → mg d.name = some (.ref fa) →
      ∃ fd : FuncData, (∀ (s : Shared) (u : Value), BindsTo s fd ⟨[u], []⟩ [("_law_script", u)]) ∧ ∀ base : Heap, (K w.params).In base → base.Ns mainGlobals mg → FnOk l.prog w (K w.params) mg base CX0 (230) fa fd ["_law_script"] (liftSp (K w.params) (spLaw (K w.params)))) :
    PySem.W.WalkO q loose XP YP l.row.toRowW d [] (fun f vs => PySem.call f vs) :=
  L2.walk_of (n := 63) (k := 230) (x := "_law_script") (CX := fun _ => CX0) (sp := fun w => liftSp (K w.params) (spLaw (K w.params))) hn (by decide) hdf ⟨rfl, by decide, by decide⟩ hY F (fun _ _ a ns hl _ hS => spLaw_start hl hS) fun _ _ _ _ _ z => z
end Mm
open PySem PySem.W PyProof.Rows
set_option maxRecDepth 100000 in
set_option maxHeartbeats 0 in
theorem PySem.Challenge.cw_contractbook_k29_whole_read_back_holds : PySem.Challenge.rw_contractbook_k29_whole_read_back.Holds := by
  w_on; o_law; k_head; (case hw => w_witness2)
  k_fill
  refine Mm.walk (l := PySem.Challenge.rw_contractbook_k29_whole_read_back) rfl rfl (fun w h Y => PySem.W.kIn_of Y) ?F
  case F =>
    intro w mg fa h KX G hmg0
    have hmg := hmg0
    refine' Mm.all_mk KX G hmg ?q0 ?q1 ?q2 ?q3 ?q4 ?q5 ?q6 ?q7 ?q8 ?q9 ?q10 ?q11 ?q12 ?q13 ?q14 ?q15 ?q16 ?q17 ?q18 ?q19 ?q20 ?q21 ?q22 ?q23 ?q24 ?q25 ?q26 ?q27 ?q28 ?q29 ?q30 ?q31 ?q32 ?q33 ?q34 ?q35 ?q36 ?q37 ?q38 ?q39 ?q40 ?q41 ?q42 ?q43 ?q44 ?q45 ?q46 ?q47 ?q48 ?q49 ?q50 ?q51 ?q52 ?q53 ?q54 ?q55 ?q56 ?q57 ?q58 ?q59 ?q60 ?q61 ?q62 ?q63 ?q64 ?q65 ?q66 ?q67 ?q68 ?q69 ?q70 ?q71 ?q72 ?q73 ?q74 ?q75 ?q76 ?q77 ?q78 ?q79 ?q80 ?q81 ?q82 ?q83 ?q84 ?q85 ?q86 ?q87 ?q88 ?q89 ?q90 ?q91 ?q92 ?q93 ?q94 ?q95 ?q96 ?q97 ?q98 ?q99 ?q100 ?q101 ?q102 ?q103 ?q104 ?q105 ?q106 ?q107 ?q108 ?q109 ?q110 ?q111 ?q112 ?q113 ?q114 ?q115 ?q116 ?q117 ?q118 ?q119 ?q120 ?q121 ?q122 ?q123 ?q124 ?q125 ?q126 ?q127 ?q128 ?q129 ?q130 ?q131 ?q132 ?q133 ?q134 ?q135 ?q136 ?q137 ?q138 ?q139 ?q140 ?q141 ?q142 ?q143 ?q144 ?q145 ?q146 ?q147 ?q148 ?q149 ?q150 ?q151 ?q152 ?q153 ?q154 ?q155 ?q156 ?q157 ?q158 ?q159 ?q160 ?q161 ?q162 ?q163 ?q164 ?q165 ?q166 ?q167 ?q168 ?q169 ?q170 ?q171 ?q172 ?q173 ?q174 ?q175 ?q176 ?q177 ?q178 ?q179 ?q180 ?q181 ?q182 ?q183 ?q184 ?q185 ?q186 ?q187 ?q188 ?q189 ?q190 ?q191 ?q192 ?q193 ?q194 ?q195 ?q196 ?q197 ?q198 ?q199 ?q200 ?q201 ?q202 ?q203 ?q204 ?q205 ?q206 ?q207 ?q208 ?q209 ?q210 ?q211 ?q212 ?q213 ?q214 ?q215 ?q216 ?q217 ?q218 ?q219 ?q220 ?q221 ?q222 ?q223 ?q224 ?q225 ?q226 ?q227 ?q228 ?q229 ?q230 ?q231 ?q232 ?q233 ?q234 ?q235 ?q236 ?q237 ?q238 ?q239 ?q240 ?q241 ?q242 ?q243 ?q244 ?q245 ?q246 ?q247 ?q248 ?q249 ?q250 ?q251 ?q252 ?q253 ?q254 ?q255 ?q256 ?q257 ?q258 ?q259 ?q260 ?q261 ?q262 ?q263 ?q264 ?q265 ?q266 ?q267 ?q268 ?q269 ?q270 ?q271 ?q272 ?q273 ?q274 ?q275 ?q276 ?q277 ?q278 ?q279 ?q280 ?q281 ?q282 ?q283 ?q284 ?q285 ?q286
    (case q0|q1|q2|q3|q4|q5|q6|q7|q8|q9|q10|q11|q12|q13|q14|q15|q16|q17|q18|q19|q20|q21|q22|q23|q24|q25|q26|q27|q28|q29|q30|q31|q32|q33|q34|q35|q36|q37|q38|q39 => k_is)
    (case q40|q41|q42|q43|q44|q45|q46|q47|q48|q49|q50|q51|q52|q53|q54|q55|q56|q57|q58|q59|q60|q61|q62|q63|q64|q65|q66|q67|q68|q69|q70|q71|q72|q73|q74|q75|q76|q77|q78|q79 => k_is)
    (case q80|q81|q82|q83|q84|q85|q86|q87|q88|q89|q90|q91|q92|q93|q94|q95|q96|q97|q98|q99|q100|q101|q102|q103|q104|q105|q106|q107|q108|q109|q110|q111|q112|q113|q114|q115|q116|q117|q118|q119 => k_is)
    (case q120|q121|q122|q123|q124|q125|q126|q127|q128|q129|q130|q131|q132|q133|q134|q135|q136|q137|q138|q139|q140|q141|q142|q143|q144|q145|q146|q147|q148|q149|q150|q151|q152|q153|q154|q155|q156|q157|q158|q159 => k_is)
    (case q160|q161|q162|q163|q164|q165|q166|q167|q168|q169|q170|q171|q172|q173|q174|q175|q176|q177|q178|q179|q180|q181|q182|q183|q184|q185|q186|q187|q188 => k_is)
    (case q189 => k_keys)
    (case q190 => decide)
    (case q191 => repeat' first | exact Mm.EsOk.nil | refine Mm.EsOk.cons ?_)
    (case q192|q193 => k_is)
    (case q194 => k_keys)
    (case q195 => decide)
    (case q196 => repeat' first | exact Mm.EsOk.nil | refine Mm.EsOk.cons ?_)
    (case q197|q198|q199|q200|q201|q202|q203 => k_is)
    (case q204 => k_exc)
    (case q205|q206|q207|q208|q209|q210|q211|q212|q213 => k_is)
    (case q214 => k_exc)
    (case q215|q216|q217|q218|q219|q220|q221|q222|q223 => k_is)
    (case q224 => k_exc)
    (case q225|q226|q227|q228|q229|q230|q231|q232|q233 => k_is)
    (case q234 => k_exc)
    (case q235|q236|q237|q238|q239|q240|q241|q242|q243 => k_is)
    (case q244 => k_exc)
    (case q245|q246|q247|q248|q249 => k_is)
    (case q250|q251|q252|q253|q254 => first | rfl | k_is)
    (case q255 => k_is)
    (case q256|q257|q258|q259|q260 => first | rfl | k_is)
    (case q261 => k_is)
    (case q262|q263|q264|q265|q266 => first | rfl | k_is)
    (case q267 => k_is)
    (case q268|q269|q270|q271|q272|q273 => first | rfl | k_is)
    (case q274|q275|q276|q277|q278|q279|q280|q281|q282|q283|q284|q285|q286 => k_is)
#print axioms PySem.Challenge.cw_contractbook_k29_whole_read_back_holds
