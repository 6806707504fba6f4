import PyProof.Rows.All
import Wide.All
import OpenK.AllK
import Wide.FinOn
import HandS.ForMost
import HandS.Wide
import HandS.Gcd
import HandS.Deep
import KE.KDictKeyed
import KE.KeyNested
import HandS.Conv
import HandS.TupSets
import KE.SortData
import HandS.Style
import HandS.TupAny
import HandS.IsInst
import HandS.Zip
import HandS.Defaults
import HandS.More
import HandS.New
import KE.KStar
import HandS.HeadHook2
import PySem.Challenge.RW_workwide_k62_whole_opening_and_greatest
set_option Elab.async false
set_option linter.all false
set_option maxRecDepth 100000
namespace DL
open PySem PySem.Spec PyProof.Rows L2

/-- data: trees; a list as a value never changes again; ref n: the n-th object of the store -/
inductive D where
  | non | bl (b : Bool) | int (i : Int) | str (x : Str) | tup (ds : List D) | lst (ds : List D) | fz (ds : List D) | dic (ks vs : List D) | ref (n : Nat)
  deriving Inhabited
mutual
def deq : D → D → Bool
  | .non, .non => true
  | .bl a, .bl b => a == b
  | .int a, .int b => decide (a = b)
  | .str a, .str b => decide (a = b)
  | .tup a, .tup b => deqs a b
  | .lst a, .lst b => deqs a b
  | .fz a, .fz b => deqs a b
  | .dic a c, .dic b d => deqs a b && deqs c d
  | .ref a, .ref b => decide (a = b)
  | _, _ => false
def deqs : List D → List D → Bool
  | [], [] => true
  | a :: as, b :: bs => deq a b && deqs as bs
  | _, _ => false
end
theorem deq_all : ∀ n : Nat, (∀ a b : D, sizeOf a < n → (deq a b = true ↔ a = b)) ∧ ∀ a b : List D, sizeOf a < n → (deqs a b = true ↔ a = b) := by
  intro n
  induction n with
  | zero => exact ⟨fun a _ h => absurd h (Nat.not_lt_zero _), fun a _ h => absurd h (Nat.not_lt_zero _)⟩
  | succ n ih =>
    refine ⟨fun a b h => ?_, fun a b h => ?_⟩
    · cases a <;> cases b <;> simp only [deq, Bool.false_eq_true, beq_iff_eq, decide_eq_true_eq, false_iff, reduceCtorEq, not_false_iff, D.bl.injEq, D.int.injEq, D.str.injEq, D.ref.injEq, D.tup.injEq, D.lst.injEq, D.fz.injEq, D.dic.injEq, Bool.and_eq_true] <;> simp only [D.tup.sizeOf_spec, D.lst.sizeOf_spec, D.fz.sizeOf_spec, D.dic.sizeOf_spec] at h
      · exact ih.2 _ _ (by omega)
      · exact ih.2 _ _ (by omega)
      · exact ih.2 _ _ (by omega)
      · rw [ih.2 _ _ (by omega), ih.2 _ _ (by omega)]
    · cases a with
      | nil => cases b <;> simp [deqs]
      | cons x xs =>
        cases b with
        | nil => simp [deqs]
        | cons y ys =>
          simp only [List.cons.sizeOf_spec] at h
          simp only [deqs, Bool.and_eq_true, List.cons.injEq]
          rw [ih.1 x y (by omega), ih.2 xs ys (by omega)]
theorem deq_iff (a b : D) : deq a b = true ↔ a = b := (deq_all (sizeOf a + 1)).1 a b (Nat.lt_succ_self _)
instance : DecidableEq D := fun a b => decidable_of_iff (deq a b = true) (deq_iff a b)
inductive MO where
  | lst (ds : List D) | dic (kvs : List (D × D))
  deriving DecidableEq, Inhabited
/-- a tree as a key -/
def kOf : Nat → D → Option NestedKey
  | _, .non => some .none
  | _, .int i => some (.num i)
  | _, .str x => some (.text x)
  | n + 1, .tup ds => (ds.mapM (kOf n)).map .tup
  | _, _ => none

/-- the written part, the program, the world -/
structure Kw where
  k : PySem.W.Frag
  P : Program
  w : World
abbrev kwOf (X : Cx) : Kw := ⟨X.K, X.prog, X.w⟩
/-- a dict whose keys are nested tuples, by its entries -/
def dicO (K : Kw) (a : Addr) (xs : List (NestedKey × Addr × Value)) : HO := .ext fun h => (a == sysModules) = false ∧ (xs.map (·.1)).Nodup ∧ xs.length ≤ sizeLine ∧
  ∃ o es ep, h.get? a = some o ∧ o.ExactDict ∧ o.data = .dict es ep ∧ es.toList = xs.map (entryOfKey (nestedKind K.P K.w))
/-- where the store's objects stand, and what a comprehension fills -/
structure Wd where
  ids : List Addr
  hid : List Addr

/-- a tuple that is read -/
def TupAt (K : Kw) (H : Hp) (a : Addr) (xs : List V) : Prop :=
  H a = some (.tup xs) ∨ ∃ (o : Obj) (its : Array Value) (n : Nat), K.k.lookup a = some o ∧ o.cls = .type "tuple" ∧ o.data = .seq its n ∧ its.size ≤ sizeLine ∧ Vals xs its.toList
theorem TupAt.sqt {K : Kw} {H : Hp} {a : Addr} {xs : List V} (h : TupAt K H a xs) : SqT K.k H a xs := h.elim (fun h => .inl (.inl h)) .inr
/-- a list that is read and never written again -/
def LstAt (H : Hp) (a : Addr) (xs : List V) : Prop := H a = some (.lst xs)
theorem LstAt.sql {K : Kw} {H : Hp} {a : Addr} {xs : List V} (h : LstAt H a xs) : SqL K.k H a xs := .inl (.inl h)
/-- the script -/
def FzAt (K : Kw) (H : Hp) (a : Addr) (xs : List V) : Prop :=
  (∃ o, H a = some (.frz o (.lst xs))) ∨ ∃ (o : Obj) (its : Array Value) (n : Nat), K.k.lookup a = some o ∧ o.cls = .type "list" ∧ o.dict = none ∧ o.data = .seq its n ∧ its.size ≤ sizeLine ∧ Vals xs its.toList
theorem FzAt.sql {K : Kw} {H : Hp} {a : Addr} {xs : List V} (h : FzAt K H a xs) : SqL K.k H a xs := h.elim (fun ⟨o, h⟩ => .inl (.inr ⟨o, h⟩)) .inr

mutual
def DR (K : Kw) (W : Wd) (H : Hp) : D → V → Prop
  | .non, v => v = .non
  | .bl b, v => v = .bl b
  | .int i, v => v = .int i
  | .str x, v => v = .str x
  | .tup ds, v => ∃ a xs, v = .ref a ∧ TupAt K H a xs ∧ DRs K W H ds xs
  | .lst ds, v => ∃ a xs, v = .ref a ∧ LstAt H a xs ∧ a ∉ W.ids ∧ a ∉ W.hid ∧ DRs K W H ds xs
  | .fz ds, v => ∃ a xs, v = .ref a ∧ FzAt K H a xs ∧ DRs K W H ds xs
  | .dic ks vs, v => False
  | .ref n, v => ∃ a, v = .ref a ∧ W.ids[n]? = some a
def DRs (K : Kw) (W : Wd) (H : Hp) : List D → List V → Prop
  | [], xs => xs = []
  | d :: ds, xs => ∃ v r, xs = v :: r ∧ DR K W H d v ∧ DRs K W H ds r
end

/-- later: what was tracked and is not of the store stands; new objects of the store were new -/
structure Ext (W : Wd) (H : Hp) (W' : Wd) (H' : Hp) : Prop where
  hid1 : ∀ a, a ∈ W.hid → a ∈ W'.hid
  hid2 : ∀ a, a ∈ W'.hid → a ∈ W.hid ∨ H a = none
  dj : ∀ a, a ∈ W'.hid → a ∉ W'.ids
  keep : ∀ a o, H a = some o → a ∉ W.ids → H' a = some o
  new : ∀ a, a ∈ W'.ids → a ∈ W.ids ∨ H a = none
  pre : ∃ t, W'.ids = W.ids ++ t
theorem Ext.trans {W W1 W2 : Wd} {H H1 H2 : Hp} (x : Ext W H W1 H1) (y : Ext W1 H1 W2 H2) : Ext W H W2 H2 where
  hid1 := fun a m => y.hid1 a (x.hid1 a m)
  hid2 := fun a m => (y.hid2 a m).elim (x.hid2 a) fun z => by
    by_cases q : a ∈ W.ids
    · exfalso
      obtain ⟨t, e⟩ := x.pre
      obtain ⟨u, e'⟩ := y.pre
      exact y.dj a m (by rw [e', e]; simp [q])
    · right
      cases e : H a with
      | none => rfl
      | some o => rw [x.keep a o e q] at z; cases z
  dj := y.dj
  keep := fun a o h n => y.keep a o (x.keep a o h n) fun m => (x.new a m).elim n fun z => by rw [h] at z; cases z
  new := fun a m => (y.new a m).elim (x.new a) fun z => by
    by_cases q : a ∈ W.ids
    · exact .inl q
    · right
      cases e : H a with
      | none => rfl
      | some o => rw [x.keep a o e q] at z; cases z
  pre := by
    obtain ⟨t, e⟩ := x.pre
    obtain ⟨u, e'⟩ := y.pre
    exact ⟨t ++ u, by rw [e', e, List.append_assoc]⟩
theorem Ext.id {W W' : Wd} {H H' : Hp} (x : Ext W H W' H') {n : Nat} {a : Addr} (h : W.ids[n]? = some a) : W'.ids[n]? = some a := by
  obtain ⟨t, e⟩ := x.pre
  rw [e, List.getElem?_append_left (List.getElem?_eq_some_iff.mp h).1]
  exact h

/-- an entry of a dict -/
def AlE (K : Kw) (W : Wd) (H : Hp) (p : D × D) (x : NestedKey × Addr × Value) : Prop := kOf 8 p.1 = some x.1 ∧ DR K W H p.1 (.ref x.2.1) ∧ ∃ u, DR K W H p.2 u ∧ RelV u x.2.2
abbrev Al (K : Kw) (W : Wd) (H : Hp) : List (D × D) → List (NestedKey × Addr × Value) → Prop := Paired (AlE K W H)
def MR (K : Kw) (W : Wd) (H : Hp) (a : Addr) : MO → Prop
  | .lst ds => ∃ xs, H a = some (.lst xs) ∧ DRs K W H ds xs
  | .dic kvs => ∃ xs : List (NestedKey × Addr × Value), H a = some (dicO K a xs) ∧ Al K W H kvs xs
structure WR (K : Kw) (W : Wd) (M : List MO) (H : Hp) : Prop where
  len : W.ids.length = M.length
  nd : W.ids.Nodup
  dj : ∀ a, a ∈ W.ids → a ∉ W.hid
  at_ : ∀ (n : Nat) (a : Addr) (o : MO), W.ids[n]? = some a → M[n]? = some o → MR K W H a o
  hs : ∀ a, a ∈ W.hid → ∃ xs, H a = some (.lst xs)

section
variable {K : Kw} {W W' : Wd} {H H' : Hp}
/-- data are read as before where the lists and tuples that they speak of stand -/
theorem DR_step (hid : ∀ (n : Nat) (a : Addr), W.ids[n]? = some a → W'.ids[n]? = some a) (ht : ∀ a xs, TupAt K H a xs → TupAt K H' a xs)
    (hl : ∀ a xs, LstAt H a xs → a ∉ W.ids → a ∉ W.hid → LstAt H' a xs ∧ a ∉ W'.ids ∧ a ∉ W'.hid) (hf : ∀ a xs, FzAt K H a xs → FzAt K H' a xs) : (∀ d v, DR K W H d v → DR K W' H' d v) ∧ ∀ ds vs, DRs K W H ds vs → DRs K W' H' ds vs := by
  have main : ∀ n : Nat, (∀ d : D, sizeOf d < n → ∀ v, DR K W H d v → DR K W' H' d v) ∧ ∀ ds : List D, sizeOf ds < n → ∀ vs, DRs K W H ds vs → DRs K W' H' ds vs := by
    intro n
    induction n with
    | zero => exact ⟨fun d h => absurd h (Nat.not_lt_zero _), fun d h => absurd h (Nat.not_lt_zero _)⟩
    | succ n ih =>
      refine ⟨fun d hd v h => ?_, fun ds hd vs h => ?_⟩
      · cases d with
        | non => simpa [DR] using h
        | bl b => simpa [DR] using h
        | int i => simpa [DR] using h
        | str x => simpa [DR] using h
        | tup ds =>
          simp only [DR] at h ⊢
          obtain ⟨a, xs, e, t, r⟩ := h
          exact ⟨a, xs, e, ht a xs t, ih.2 ds (by simp at hd; omega) xs r⟩
        | lst ds =>
          simp only [DR] at h ⊢
          obtain ⟨a, xs, e, t, n1, n2, r⟩ := h
          obtain ⟨t', n1', n2'⟩ := hl a xs t n1 n2
          exact ⟨a, xs, e, t', n1', n2', ih.2 ds (by simp at hd; omega) xs r⟩
        | fz ds =>
          simp only [DR] at h ⊢
          obtain ⟨a, xs, e, t, r⟩ := h
          exact ⟨a, xs, e, hf a xs t, ih.2 ds (by simp at hd; omega) xs r⟩
        | dic ks vs => simp only [DR] at h
        | ref m =>
          simp only [DR] at h ⊢
          obtain ⟨a, e, q⟩ := h
          exact ⟨a, e, hid m a q⟩
      · cases ds with
        | nil => simpa [DRs] using h
        | cons d ds =>
          simp only [DRs] at h ⊢
          obtain ⟨v, r, e, h1, h2⟩ := h
          exact ⟨v, r, e, ih.1 d (by simp at hd; omega) v h1, ih.2 ds (by simp at hd; omega) r h2⟩
  exact ⟨fun d v => (main (sizeOf d + 1)).1 d (Nat.lt_succ_self _) v, fun ds vs => (main (sizeOf ds + 1)).2 ds (Nat.lt_succ_self _) vs⟩
theorem Ext.tup (x : Ext W H W' H') (hw : ∀ a, a ∈ W.ids → ∀ xs, H a ≠ some (.tup xs)) {a : Addr} {xs : List V} (t : TupAt K H a xs) : TupAt K H' a xs := by
  rcases t with t | t
  · exact .inl (x.keep a _ t fun m => hw a m xs t)
  · exact .inr t
theorem WR.notup {M : List MO} (w : WR K W M H) : ∀ a, a ∈ W.ids → ∀ xs, H a ≠ some (.tup xs) := by
  intro a m xs e
  obtain ⟨n, hn⟩ := List.mem_iff_getElem?.mp m
  have hlt : n < M.length := by rw [← w.len]; exact (List.getElem?_eq_some_iff.mp hn).1
  have := w.at_ n a M[n] hn (List.getElem?_eq_getElem hlt)
  cases q : M[n] with
  | lst ds =>
    rw [q] at this
    obtain ⟨ys, e', _⟩ := this
    rw [e] at e'; cases e'
  | dic kvs =>
    rw [q] at this
    obtain ⟨ys, e', _⟩ := this
    rw [e] at e'
    exact nomatch (Option.some.inj e' : HO.tup xs = .ext _)
theorem Ext.lst (x : Ext W H W' H') {a : Addr} {xs : List V} (t : LstAt H a xs) (n : a ∉ W.ids) (n2 : a ∉ W.hid) : LstAt H' a xs ∧ a ∉ W'.ids ∧ a ∉ W'.hid := by
  have e : ∃ o, H a = some o := ⟨_, t⟩
  have no : H a = none → False := fun z => by
    obtain ⟨o, e⟩ := e
    rw [e] at z; cases z
  exact ⟨x.keep a _ t n, fun m => (x.new a m).elim n no, fun m => (x.hid2 a m).elim n2 no⟩
theorem Ext.fz {M : List MO} (w : WR K W M H) (x : Ext W H W' H') {a : Addr} {xs : List V} (t : FzAt K H a xs) : FzAt K H' a xs := by
  rcases t with ⟨o, t⟩ | t
  · refine .inl ⟨o, x.keep a _ t fun m => ?_⟩
    obtain ⟨n, hn⟩ := List.mem_iff_getElem?.mp m
    have hlt : n < M.length := by rw [← w.len]; exact (List.getElem?_eq_some_iff.mp hn).1
    have := w.at_ n a M[n] hn (List.getElem?_eq_getElem hlt)
    cases q : M[n] with
    | lst ds =>
      rw [q] at this
      obtain ⟨ys, e', _⟩ := this
      rw [t] at e'; cases e'
    | dic kvs =>
      rw [q] at this
      obtain ⟨ys, e', _⟩ := this
      rw [t] at e'
      exact nomatch (Option.some.inj e' : HO.frz o (.lst xs) = .ext _)
  · exact .inr t
/-- later, but what a comprehension fills may have grown -/
structure ExtW (W : Wd) (H : Hp) (W' : Wd) (H' : Hp) : Prop where
  hid1 : ∀ a, a ∈ W.hid → a ∈ W'.hid
  hid2 : ∀ a, a ∈ W'.hid → a ∈ W.hid ∨ H a = none
  keep : ∀ a o, H a = some o → a ∉ W.ids → a ∉ W.hid → H' a = some o
  new : ∀ a, a ∈ W'.ids → a ∈ W.ids ∨ H a = none
  pre : ∃ t, W'.ids = W.ids ++ t
theorem Ext.weak (x : Ext W H W' H') : ExtW W H W' H' := ⟨x.hid1, x.hid2, fun a o e n _ => x.keep a o e n, x.new, x.pre⟩
theorem ExtW.id (x : ExtW W H W' H') {n : Nat} {a : Addr} (h : W.ids[n]? = some a) : W'.ids[n]? = some a := by
  obtain ⟨t, e⟩ := x.pre
  rw [e, List.getElem?_append_left (List.getElem?_eq_some_iff.mp h).1]
  exact h
theorem ExtW.tup {M : List MO} (w : WR K W M H) (x : ExtW W H W' H') {a : Addr} {xs : List V} (t : TupAt K H a xs) : TupAt K H' a xs := by
  rcases t with t | t
  · exact .inl (x.keep a _ t (fun m => w.notup a m xs t) fun m => by
      obtain ⟨ys, e⟩ := w.hs a m
      rw [t] at e; cases e)
  · exact .inr t
theorem ExtW.lst (x : ExtW W H W' H') {a : Addr} {xs : List V} (t : LstAt H a xs) (n : a ∉ W.ids) (n2 : a ∉ W.hid) : LstAt H' a xs ∧ a ∉ W'.ids ∧ a ∉ W'.hid := by
  have e : ∃ o, H a = some o := ⟨_, t⟩
  have no : H a = none → False := fun z => by
    obtain ⟨o, e⟩ := e
    rw [e] at z; cases z
  exact ⟨x.keep a _ t n n2, fun m => (x.new a m).elim n no, fun m => (x.hid2 a m).elim n2 no⟩
theorem ExtW.fz {M : List MO} (w : WR K W M H) (x : ExtW W H W' H') {a : Addr} {xs : List V} (t : FzAt K H a xs) : FzAt K H' a xs := by
  rcases t with ⟨o, t⟩ | t
  · refine .inl ⟨o, x.keep a _ t (fun m => ?_) fun m => ?_⟩
    · obtain ⟨n, hn⟩ := List.mem_iff_getElem?.mp m
      have hlt : n < M.length := by rw [← w.len]; exact (List.getElem?_eq_some_iff.mp hn).1
      have := w.at_ n a M[n] hn (List.getElem?_eq_getElem hlt)
      cases q : M[n] with
      | lst ds =>
        rw [q] at this
        obtain ⟨ys, e', _⟩ := this
        rw [t] at e'; cases e'
      | dic kvs =>
        rw [q] at this
        obtain ⟨ys, e', _⟩ := this
        rw [t] at e'
        exact nomatch (Option.some.inj e' : HO.frz o (.lst xs) = .ext _)
    · obtain ⟨ys, e⟩ := w.hs a m
      rw [t] at e; cases e
  · exact .inr t
theorem DR.monoW {M : List MO} (w : WR K W M H) (x : ExtW W H W' H') {d : D} {v : V} (h : DR K W H d v) : DR K W' H' d v :=
  (DR_step (K := K) (fun _ _ q => x.id q) (fun _ _ t => x.tup w t) (fun _ _ t n m => x.lst t n m) fun _ _ t => x.fz w t).1 d v h
theorem DRs.monoW {M : List MO} (w : WR K W M H) (x : ExtW W H W' H') {ds : List D} {vs : List V} (h : DRs K W H ds vs) : DRs K W' H' ds vs :=
  (DR_step (K := K) (fun _ _ q => x.id q) (fun _ _ t => x.tup w t) (fun _ _ t n m => x.lst t n m) fun _ _ t => x.fz w t).2 ds vs h
theorem DR.mono {M : List MO} (w : WR K W M H) (x : Ext W H W' H') {d : D} {v : V} (h : DR K W H d v) : DR K W' H' d v :=
  (DR_step (K := K) (fun _ _ q => x.id q) (fun _ _ t => x.tup w.notup t) (fun _ _ t n m => x.lst t n m) fun _ _ t => x.fz w t).1 d v h
theorem DRs.mono {M : List MO} (w : WR K W M H) (x : Ext W H W' H') {ds : List D} {vs : List V} (h : DRs K W H ds vs) : DRs K W' H' ds vs :=
  (DR_step (K := K) (fun _ _ q => x.id q) (fun _ _ t => x.tup w.notup t) (fun _ _ t n m => x.lst t n m) fun _ _ t => x.fz w t).2 ds vs h

theorem DRs.length : ∀ {ds : List D} {vs : List V}, DRs K W H ds vs → ds.length = vs.length
  | [], vs, h => by simp only [DRs] at h; rw [h]; rfl
  | d :: ds, vs, h => by
    simp only [DRs] at h
    obtain ⟨v, r, rfl, _, h⟩ := h
    rw [List.length_cons, List.length_cons, DRs.length h]
theorem DRs.get : ∀ {ds : List D} {vs : List V} {i : Nat} {d : D}, DRs K W H ds vs → ds[i]? = some d → ∃ v, vs[i]? = some v ∧ DR K W H d v
  | [], _, _, _, _, e => by simp at e
  | d :: ds, vs, 0, _, h, e => by
    simp only [DRs] at h
    obtain ⟨v, r, rfl, h, _⟩ := h
    simp at e; subst e
    exact ⟨v, rfl, h⟩
  | d :: ds, vs, i + 1, x, h, e => by
    simp only [DRs] at h
    obtain ⟨v, r, rfl, _, h⟩ := h
    obtain ⟨u, e1, e2⟩ := DRs.get (i := i) h (by simpa using e)
    exact ⟨u, by simpa using e1, e2⟩
theorem DRs.app : ∀ {ds es : List D} {vs us : List V}, DRs K W H ds vs → DRs K W H es us → DRs K W H (ds ++ es) (vs ++ us)
  | [], _, _, _, h, k => by simp only [DRs] at h; subst h; exact k
  | d :: ds, es, vs, us, h, k => by
    simp only [DRs] at h
    obtain ⟨v, r, rfl, h1, h⟩ := h
    show DRs K W H (d :: (ds ++ es)) (v :: (r ++ us))
    simp only [DRs]
    exact ⟨v, r ++ us, rfl, h1, DRs.app h k⟩
theorem DRs.cons {d : D} {ds : List D} {v : V} {vs : List V} (h : DR K W H d v) (k : DRs K W H ds vs) : DRs K W H (d :: ds) (v :: vs) := by
  simp only [DRs]; exact ⟨v, vs, rfl, h, k⟩
theorem DRs.nil : DRs K W H [] [] := by simp only [DRs]
theorem DRs.one {d : D} {v : V} (h : DR K W H d v) : DRs K W H [d] [v] := .cons h .nil
theorem DRs.take : ∀ {ds : List D} {vs : List V} (n : Nat), DRs K W H ds vs → DRs K W H (ds.take n) (vs.take n)
  | _, _, 0, _ => by simp [DRs]
  | [], vs, n + 1, h => by simp only [DRs] at h; subst h; simp [DRs]
  | d :: ds, vs, n + 1, h => by
    simp only [DRs] at h
    obtain ⟨v, r, rfl, h1, h⟩ := h
    exact .cons h1 (DRs.take n h)
theorem DRs.drop : ∀ {ds : List D} {vs : List V} (n : Nat), DRs K W H ds vs → DRs K W H (ds.drop n) (vs.drop n)
  | _, _, 0, h => h
  | [], vs, n + 1, h => by simp only [DRs] at h; subst h; simp [DRs]
  | d :: ds, vs, n + 1, h => by
    simp only [DRs] at h
    obtain ⟨v, r, rfl, h1, h⟩ := h
    exact DRs.drop n h
theorem DRs.set : ∀ {ds : List D} {vs : List V} (i : Nat) {d : D} {v : V}, DRs K W H ds vs → DR K W H d v → DRs K W H (ds.set i d) (vs.set i v)
  | [], vs, i, _, _, h, _ => by simp only [DRs] at h; subst h; simp [DRs]
  | d :: ds, vs, 0, _, _, h, k => by
    simp only [DRs] at h
    obtain ⟨v, r, rfl, h1, h⟩ := h
    exact .cons k h
  | d :: ds, vs, i + 1, _, _, h, k => by
    simp only [DRs] at h
    obtain ⟨v, r, rfl, h1, h⟩ := h
    exact .cons h1 (DRs.set i h k)
theorem DRs.rep {d : D} {v : V} (h : DR K W H d v) : ∀ n, DRs K W H (List.replicate n d) (List.replicate n v)
  | 0 => .nil
  | n + 1 => .cons h (DRs.rep h n)
theorem DRs.rev : ∀ {ds : List D} {vs : List V}, DRs K W H ds vs → DRs K W H ds.reverse vs.reverse
  | [], vs, h => by simp only [DRs] at h; subst h; simp [DRs]
  | d :: ds, vs, h => by
    simp only [DRs] at h
    obtain ⟨v, r, rfl, h1, h⟩ := h
    rw [List.reverse_cons, List.reverse_cons]
    exact (DRs.rev h).app (.one h1)
theorem DRs.of_get : ∀ {ds : List D} {vs : List V}, ds.length = vs.length → (∀ (i : Nat) (d : D) (v : V), ds[i]? = some d → vs[i]? = some v → DR K W H d v) → DRs K W H ds vs
  | [], [], _, _ => .nil
  | [], _ :: _, h, _ => by simp at h
  | _ :: _, [], h, _ => by simp at h
  | d :: ds, v :: vs, h, f => .cons (f 0 d v rfl rfl) (DRs.of_get (by simpa using h) fun i x y e1 e2 => f (i + 1) x y (by simpa using e1) (by simpa using e2))

/-! ### steps of the heap -/
theorem WR.refl {M : List MO} (w : WR K W M H) : Ext W H W H := ⟨fun _ m => m, fun _ m => .inl m, fun a m n => w.dj a n m, fun _ _ h _ => h, fun _ h => .inl h, [], by simp⟩
theorem ext_new {M : List MO} (w : WR K W M H) {p : Addr} {o : HO} (h : H p = none) : Ext W H W (upd H p o) :=
  ⟨fun _ m => m, fun _ m => .inl m, fun a m n => w.dj a n m, fun a u e _ => by rw [upd_ne (ne_of_none e h)]; exact e, fun _ m => .inl m, [], by simp⟩
theorem WR.mem {M : List MO} (w : WR K W M H) {a : Addr} (m : a ∈ W.ids) : ∃ o, H a = some o := by
  obtain ⟨n, hn⟩ := List.mem_iff_getElem?.mp m
  have hlt : n < M.length := by rw [← w.len]; exact (List.getElem?_eq_some_iff.mp hn).1
  have := w.at_ n a M[n] hn (List.getElem?_eq_getElem hlt)
  cases q : M[n] with
  | lst ds => rw [q] at this; obtain ⟨ys, e', _⟩ := this; exact ⟨_, e'⟩
  | dic kvs => rw [q] at this; obtain ⟨ys, e', _⟩ := this; exact ⟨_, e'⟩
theorem MR.mono {M : List MO} (w : WR K W M H) (x : Ext W H W' H') {a : Addr} {o : MO} (e : H' a = H a) (h : MR K W H a o) : MR K W' H' a o := by
  cases o with
  | lst ds => obtain ⟨xs, q, r⟩ := h; exact ⟨xs, e.trans q, r.mono w x⟩
  | dic kvs => obtain ⟨xs, q, r⟩ := h; exact ⟨xs, e.trans q, L2.Paired.mapP r fun _ _ z => ⟨z.1, z.2.1.mono w x, let ⟨u, h1, h2⟩ := z.2.2; ⟨u, h1.mono w x, h2⟩⟩⟩
/-- a new thing beside the store -/
theorem WR.new {M : List MO} (w : WR K W M H) {p : Addr} {o : HO} (h : H p = none) : WR K W M (upd H p o) where
  len := w.len
  nd := w.nd
  dj := w.dj
  at_ := fun n a u e1 e2 => by
    obtain ⟨q, hq⟩ := w.mem (List.mem_of_getElem? e1)
    exact MR.mono w (ext_new w h) (upd_ne (ne_of_none hq h)) (w.at_ n a u e1 e2)
  hs := fun a m => by
    obtain ⟨q, hq⟩ := w.hs a m
    exact ⟨q, by rw [upd_ne (ne_of_none hq h)]; exact hq⟩
/-- a new object of the store -/
theorem WR.pushO {M : List MO} (w : WR K W M H) {p : Addr} {ho : HO} {mo : MO} (h : H p = none) (r : ∀ W' H', Ext W H W' H' → H' p = some ho → MR K W' H' p mo) :
    WR K ⟨W.ids ++ [p], W.hid⟩ (M ++ [mo]) (upd H p ho) ∧ Ext W H ⟨W.ids ++ [p], W.hid⟩ (upd H p ho) := by
  have x : Ext W H ⟨W.ids ++ [p], W.hid⟩ (upd H p ho) := ⟨fun _ m => m, fun _ m => .inl m, fun a m n => (List.mem_append.mp n).elim (fun n => w.dj a n m) fun z => by { simp at z; subst z; obtain ⟨q, hq⟩ := w.hs _ m; rw [h] at hq; cases hq }, fun a u e _ => by rw [upd_ne (ne_of_none e h)]; exact e, fun a m => (List.mem_append.mp m).elim .inl fun z => .inr (by simp at z; rw [z]; exact h), [p], rfl⟩
  refine ⟨⟨by simp [w.len], ?_, fun a m => ?_, fun n a u e1 e2 => ?_, fun a m => ?_⟩, x⟩
  · refine List.nodup_append.mpr ⟨w.nd, by simp, fun a m b z => ?_⟩
    simp at z; subst z
    obtain ⟨q, hq⟩ := w.mem m
    exact ne_of_none hq h
  · rcases List.mem_append.mp m with m | m
    · exact w.dj a m
    · simp at m; subst m
      intro z
      obtain ⟨q, hq⟩ := w.hs _ z
      rw [h] at hq; cases hq
  · by_cases hn : n < W.ids.length
    · rw [List.getElem?_append_left hn] at e1
      rw [List.getElem?_append_left (by rw [← w.len]; exact hn)] at e2
      obtain ⟨q, hq⟩ := w.mem (List.mem_of_getElem? e1)
      exact MR.mono w x (upd_ne (ne_of_none hq h)) (w.at_ n a u e1 e2)
    · rw [List.getElem?_append_right (by omega)] at e1
      rw [List.getElem?_append_right (by rw [← w.len]; omega), ← w.len] at e2
      have hz : n - W.ids.length = 0 := by
        cases q : n - W.ids.length with
        | zero => rfl
        | succ k => rw [q] at e1; simp at e1
      rw [hz] at e1 e2
      simp at e1 e2
      subst e1 e2
      exact r _ _ x upd_same
  · obtain ⟨q, hq⟩ := w.hs a m
    exact ⟨q, by rw [upd_ne (ne_of_none hq h)]; exact hq⟩
theorem WR.push {M : List MO} (w : WR K W M H) {p : Addr} {xs : List V} {ds : List D} (h : H p = none) (r : DRs K W H ds xs) :
    WR K ⟨W.ids ++ [p], W.hid⟩ (M ++ [.lst ds]) (upd H p (.lst xs)) ∧ Ext W H ⟨W.ids ++ [p], W.hid⟩ (upd H p (.lst xs)) :=
  w.pushO h fun W' H' x e => ⟨xs, e, r.mono w x⟩
/-- an object of the store changed -/
theorem ext_put {M : List MO} (w : WR K W M H) {n : Nat} {a : Addr} {o : HO} (h : W.ids[n]? = some a) : Ext W H W (upd H a o) :=
  ⟨fun _ m => m, fun _ m => .inl m, fun a m n => w.dj a n m, fun b u e m => by rw [upd_ne (fun z => m (by rw [z]; exact List.mem_of_getElem? h))]; exact e, fun _ m => .inl m, [], by simp⟩
theorem WR.putO {M : List MO} (w : WR K W M H) {n : Nat} {a : Addr} {ho : HO} {mo : MO} (h : W.ids[n]? = some a) (r : ∀ W' H', Ext W H W' H' → H' a = some ho → MR K W' H' a mo) :
    WR K W (M.set n mo) (upd H a ho) ∧ Ext W H W (upd H a ho) := by
  have x : Ext W H W (upd H a ho) := ext_put w h
  refine ⟨⟨by simp [w.len], w.nd, w.dj, fun m b u e1 e2 => ?_, fun b m => ?_⟩, x⟩
  · by_cases hm : n = m
    · subst hm
      rw [h] at e1; cases e1
      have hlt : n < M.length := by rw [← w.len]; exact (List.getElem?_eq_some_iff.mp h).1
      rw [List.getElem?_set_self hlt] at e2
      cases e2
      exact r _ _ x upd_same
    · rw [List.getElem?_set_ne hm] at e2
      have hb : b ≠ a := fun z => by
        subst z
        have := (List.getElem?_inj (by exact (List.getElem?_eq_some_iff.mp h).1) w.nd).mp (h.trans e1.symm)
        exact hm this
      exact MR.mono w x (upd_ne hb) (w.at_ m b u e1 e2)
  · obtain ⟨q, hq⟩ := w.hs b m
    exact ⟨q, by rw [upd_ne (fun z => w.dj a (List.mem_of_getElem? h) (by rw [← z]; exact m))]; exact hq⟩
theorem WR.put {M : List MO} (w : WR K W M H) {n : Nat} {a : Addr} {xs : List V} {ds : List D} (h : W.ids[n]? = some a) (r : DRs K W H ds xs) :
    WR K W (M.set n (.lst ds)) (upd H a (.lst xs)) ∧ Ext W H W (upd H a (.lst xs)) :=
  w.putO h fun W' H' x e => ⟨xs, e, r.mono w x⟩

/-! ### slots -/
def RE (K : Kw) (W : Wd) (H : Hp) (env : List (Option D)) (σ : L2.St) : Prop :=
  env.length = σ.length ∧ ∀ (i : Nat) (d : D), env[i]? = some (some d) → ∃ v, σ[i]? = some (some v) ∧ DR K W H d v
theorem RE.mono {M : List MO} {env : List (Option D)} {σ : L2.St} (w : WR K W M H) (x : Ext W H W' H') (h : RE K W H env σ) : RE K W' H' env σ :=
  ⟨h.1, fun i d e => let ⟨v, e1, r⟩ := h.2 i d e; ⟨v, e1, r.mono w x⟩⟩
theorem RE.set {env : List (Option D)} {σ : L2.St} {d : D} {v : V} (h : RE K W H env σ) (r : DR K W H d v) (i : Nat) : RE K W H (env.set i (some d)) (σ.set i (some v)) := by
  refine ⟨by simp [h.1], fun j x e => ?_⟩
  by_cases hj : i = j
  · subst hj
    by_cases hi : i < env.length
    · rw [List.getElem?_set_self hi] at e
      cases e
      exact ⟨v, List.getElem?_set_self (by rw [← h.1]; exact hi), r⟩
    · rw [List.getElem?_eq_none (by simpa using hi)] at e
      cases e
  · rw [List.getElem?_set_ne hj] at e
    rw [List.getElem?_set_ne hj]
    exact h.2 j x e
def wipeD (env : List (Option D)) : List Nat → List (Option D)
  | [] => env
  | v :: vs => (wipeD env vs).set v none
theorem wipeD_length (env : List (Option D)) : ∀ vs : List Nat, (wipeD env vs).length = env.length
  | [] => rfl
  | v :: vs => by unfold wipeD; rw [List.length_set, wipeD_length env vs]
theorem RE.wipe {env : List (Option D)} {σ : L2.St} (h : RE K W H env σ) : ∀ vs : List Nat, RE K W H (wipeD env vs) (wipe σ vs)
  | [] => h
  | v :: vs => by
    have ih := RE.wipe h vs
    refine ⟨by simp only [wipeD, L2.wipe, List.length_set]; exact ih.1, fun j x e => ?_⟩
    unfold wipeD at e
    unfold L2.wipe
    by_cases hj : v = j
    · subst hj
      by_cases hi : v < (wipeD env vs).length
      · rw [List.getElem?_set_self hi] at e; cases e
      · rw [List.getElem?_eq_none (by simpa using hi)] at e; cases e
    · rw [List.getElem?_set_ne hj] at e
      rw [List.getElem?_set_ne hj]
      exact ih.2 j x e
end
end DL

set_option maxRecDepth 100000
namespace DL
open PySem PySem.Spec PyProof.Rows L2

/-! ### keys -/
theorem kOf_tup {n : Nat} {ds : List D} {k : NestedKey} (e : kOf (n + 1) (.tup ds) = some k) : ∃ ks, ds.mapM (kOf n) = some ks ∧ k = .tup ks := by
  simp only [kOf, Option.map_eq_some_iff] at e
  obtain ⟨ks, h1, h2⟩ := e
  exact ⟨ks, h1, h2.symm⟩
theorem mapM_cons_some {α β : Type} {f : α → Option β} {a : α} {as : List α} {bs : List β} (e : (a :: as).mapM f = some bs) : ∃ b r, f a = some b ∧ as.mapM f = some r ∧ bs = b :: r := by
  rw [List.mapM_cons] at e
  cases e1 : f a with
  | none => rw [e1] at e; simp at e
  | some b =>
    cases e2 : as.mapM f with
    | none => rw [e1, e2] at e; simp at e
    | some r =>
      rw [e1, e2] at e
      simp at e
      exact ⟨b, r, rfl, rfl, e.symm⟩
theorem kOf_inj : ∀ (n m : Nat) (d d' : D) (k : NestedKey), kOf n d = some k → kOf m d' = some k → d = d' := by
  intro n
  induction n with
  | zero =>
    intro m d d' k e e'
    cases d <;> simp only [kOf, reduceCtorEq, Option.some.injEq] at e <;> subst e <;> cases m <;> cases d' <;> simp [kOf] at e' <;> (try subst e') <;> (try rfl)
  | succ n ih =>
    intro m d d' k e e'
    cases d with
    | tup ds =>
      obtain ⟨ks, h1, rfl⟩ := kOf_tup e
      cases d' with
      | tup es =>
        cases m with
        | zero => simp [kOf] at e'
        | succ m =>
          obtain ⟨ks', h2, q⟩ := kOf_tup e'
          cases q
          congr 1
          clear e e'
          induction ds generalizing es ks with
          | nil =>
            simp at h1; subst h1
            cases es with
            | nil => rfl
            | cons y ys =>
              obtain ⟨_, _, _, _, q⟩ := mapM_cons_some h2
              cases q
          | cons x xs ih2 =>
            obtain ⟨b, r, h3, h4, rfl⟩ := mapM_cons_some h1
            cases es with
            | nil => simp at h2
            | cons y ys =>
              obtain ⟨b', r', h5, h6, q⟩ := mapM_cons_some h2
              cases q
              rw [ih m x y b h3 h5, ih2 r h4 ys h6]
      | _ => cases m <;> simp [kOf] at e'
    | _ => simp only [kOf, reduceCtorEq, Option.some.injEq] at e <;> subst e <;> cases m <;> cases d' <;> simp [kOf] at e' <;> (try subst e') <;> (try rfl)

theorem nested_of {X : Cx} {pins : List (Addr × Obj)} {σ : L2.St} {H : Hp} {s : Shared} {W : Wd} (I : Inv X pins σ H s) : ∀ (n : Nat) (d : D) (v : V) (u : Value) (k : NestedKey), DR (kwOf X) W H d v → RelV v u → kOf n d = some k → NestedIs s.heap k u ∧ k.depth ≤ n := by
  intro n
  induction n with
  | zero =>
    intro d v u k h r e
    cases d <;> simp only [kOf, reduceCtorEq, Option.some.injEq] at e <;> subst e <;> simp only [DR] at h <;> subst h
    · cases (show u = Value.none from r); exact ⟨.none, Nat.le_refl _⟩
    · obtain ⟨t, rfl⟩ := (show ∃ t, u = Value.int _ t from r); exact ⟨.int _ t, Nat.le_refl _⟩
    · obtain ⟨t, rfl⟩ := (show ∃ t, u = Value.str _ t from r); exact ⟨.text _ t, Nat.le_refl _⟩
  | succ n ih =>
    intro d v u k h r e
    cases d with
    | tup ds =>
      obtain ⟨ks, h1, rfl⟩ := kOf_tup e
      simp only [DR] at h
      obtain ⟨a, xs, rfl, t, rs⟩ := h
      cases (show u = Value.ref a from r)
      obtain ⟨its, rv, ⟨o, ho, hc, m, hd⟩, _⟩ := I.tuple t.sqt
      have all : ∀ (ds : List D) (xs : List V) (its : List Value) (ks : List NestedKey), DRs (kwOf X) W H ds xs → Vals xs its → ds.mapM (kOf n) = some ks → NestedAll s.heap ks its ∧ NestedKey.depthAll ks ≤ n := by
        intro ds
        induction ds with
        | nil =>
          intro xs its ks r1 r2 e
          simp only [DRs] at r1; subst r1
          cases r2
          simp at e; subst e
          exact ⟨.nil, Nat.zero_le _⟩
        | cons d ds ih2 =>
          intro xs its ks r1 r2 e
          simp only [DRs] at r1
          obtain ⟨y, ys, rfl, q1, q2⟩ := r1
          cases r2 with
          | cons p1 p2 =>
            obtain ⟨b, r', h3, h4, rfl⟩ := mapM_cons_some e
            obtain ⟨z1, z2⟩ := ih d y _ b q1 p1 h3
            obtain ⟨z3, z4⟩ := ih2 ys _ r' q2 p2 h4
            exact ⟨.cons z1 z3, by simp only [NestedKey.depthAll]; omega⟩
      obtain ⟨z1, z2⟩ := all ds xs its ks rs rv h1
      exact ⟨.tup ho hc hd (by simpa using z1), by simp only [NestedKey.depth]; omega⟩
    | non => simp only [kOf, Option.some.injEq] at e; subst e; simp only [DR] at h; subst h; cases (show u = Value.none from r); exact ⟨.none, Nat.zero_le _⟩
    | int i => simp only [kOf, Option.some.injEq] at e; subst e; simp only [DR] at h; subst h; obtain ⟨t, rfl⟩ := (show ∃ t, u = Value.int _ t from r); exact ⟨.int _ t, Nat.zero_le _⟩
    | str x => simp only [kOf, Option.some.injEq] at e; subst e; simp only [DR] at h; subst h; obtain ⟨t, rfl⟩ := (show ∃ t, u = Value.str _ t from r); exact ⟨.text _ t, Nat.zero_le _⟩
    | _ => simp [kOf] at e

/-! ### tables -/
def findD (kvs : List (D × D)) (k : D) : Option D := (kvs.find? fun p => decide (p.1 = k)).map (·.2)
def putD (kvs : List (D × D)) (k v : D) : List (D × D) := if (findD kvs k).isSome then kvs.map (fun p => if p.1 = k then (p.1, v) else p) else kvs ++ [(k, v)]
/-- a key of a dict with nested keys -/
def keyOk (d : D) : Bool := (match d with | .tup _ => true | _ => false) && (kOf 8 d).isSome
section
variable {K : Kw} {W : Wd} {H : Hp} {kvs : List (D × D)} {xs : List (NestedKey × Addr × Value)} {d : D} {k : NestedKey}
theorem al_find (r : Al K W H kvs xs) (e : kOf 8 d = some k) : (findD kvs d = none ∧ atKey xs k = none) ∨ ∃ d' a u v, findD kvs d = some d' ∧ atKey xs k = some (a, u) ∧ DR K W H d' v ∧ RelV v u := by
  induction r with
  | nil => exact .inl ⟨rfl, rfl⟩
  | @cons p q ps qs h t ih =>
    obtain ⟨h1, h2, u, h3, h4⟩ := h
    by_cases z : p.1 = d
    · have z' : q.1 = k := by rw [z, e] at h1; exact (Option.some.inj h1).symm
      exact .inr ⟨p.2, q.2.1, q.2.2, u, by simp [findD, List.find?_cons, z], by simp [atKey, List.find?_cons, z'], h3, h4⟩
    · have z' : ¬ q.1 = k := fun y => z (kOf_inj 8 8 p.1 d k (by rw [h1, y]) e)
      have e1 : findD (p :: ps) d = findD ps d := by simp [findD, List.find?_cons, z]
      have e2 : atKey (q :: qs) k = atKey qs k := by simp [atKey, List.find?_cons, z']
      rw [e1, e2]; exact ih
theorem al_map (r : Al K W H kvs xs) (e : kOf 8 d = some k) {dv : D} {v : V} {u : Value} (r1 : DR K W H dv v) (r2 : RelV v u) : Al K W H (kvs.map fun p => if p.1 = d then (p.1, dv) else p) (xs.map (putAt k u)) := by
  induction r with
  | nil => exact .nil
  | @cons p q ps qs h t ih =>
    rw [List.map_cons, List.map_cons]
    refine .cons ?_ ih
    obtain ⟨h1, h2, u', h3, h4⟩ := h
    unfold putAt
    by_cases z : p.1 = d
    · have z' : q.1 = k := by rw [z, e] at h1; exact (Option.some.inj h1).symm
      rw [if_pos z, if_pos z']
      exact ⟨h1, h2, v, r1, r2⟩
    · have z' : ¬ q.1 = k := fun y => z (kOf_inj 8 8 p.1 d k (by rw [h1, y]) e)
      rw [if_neg z, if_neg z']
      exact ⟨h1, h2, u', h3, h4⟩
theorem al_put (r : Al K W H kvs xs) (e : kOf 8 d = some k) {b : Addr} {dv : D} {v : V} {u : Value} (rk : DR K W H d (.ref b)) (r1 : DR K W H dv v) (r2 : RelV v u) : Al K W H (putD kvs d dv) (storedH xs k b u) := by
  unfold putD storedH
  rcases al_find r e with ⟨e1, e2⟩ | ⟨d', a, u', v', e1, e2, _⟩
  · rw [e1, e2]
    exact Paired.snoc r ⟨e, rk, v, r1, r2⟩
  · rw [e1, e2]
    exact al_map r e r1 r2
theorem putD_len (v : D) : (putD kvs d v).length ≤ kvs.length + 1 := by
  unfold putD
  split <;> simp
end
section
variable {X : Cx} {pins : List (Addr × Obj)} {σ : L2.St} {H : Hp} {s : Shared} {W : Wd} {a b : Addr} {kvs : List (D × D)} {d : D}
theorem keyOk_of (h : keyOk d = true) : (∃ ds, d = .tup ds) ∧ ∃ k, kOf 8 d = some k := by
  unfold keyOk at h
  rw [Bool.and_eq_true] at h
  refine ⟨?_, Option.isSome_iff_exists.mp h.2⟩
  cases d <;> first | exact ⟨_, rfl⟩ | (simp at h)
/-- the dict in the heap -/
theorem dic_of (I : Inv X pins σ H s) (h : MR (kwOf X) W H a (.dic kvs)) : ∃ xs, H a = some (dicO (kwOf X) a xs) ∧ Al (kwOf X) W H kvs xs ∧ (a == sysModules) = false ∧ xs.length ≤ sizeLine ∧ kvs.length = xs.length ∧ s.heap.DictOfH (nestedKind X.prog X.w) a xs := by
  obtain ⟨xs, hx, r⟩ := h
  obtain ⟨⟨h1, h2, h3, o, es, ep, h4, h5, h6, h7⟩, hh⟩ := (show ObjOk X.prog X.w H s.heap a (dicO (kwOf X) a xs) from I.hok a _ hx)
  refine ⟨xs, hx, r, h1, h3, Paired.length r, o, es, ep, h4, h5, h6, h7, ?_, h2⟩
  clear hx h1 h2 h3 h4 h5 h6 h7 hh
  induction r with
  | nil => intro x hx; exact nomatch hx
  | @cons p q ps qs h t ih =>
    intro x hx
    rcases List.mem_cons.mp hx with e | hx
    · subst e
      exact nested_of I 8 p.1 _ _ _ h.2.1 rfl h.1
    · exact ih x hx
theorem key_ref {v : V} (r : DR (kwOf X) W H d v) (h : keyOk d = true) : ∃ b, v = .ref b := by
  obtain ⟨⟨ds, rfl⟩, _⟩ := keyOk_of h
  simp only [DR] at r
  obtain ⟨a, xs, e, _⟩ := r
  exact ⟨a, e⟩
/-- d[k] -/
def rIxN (K : Kw) : R2 := fun x y H Q => ∃ W a kvs d d', x = .ref a ∧ MR K W H a (.dic kvs) ∧ DR K W H d y ∧ keyOk d = true ∧ findD kvs d = some d' ∧ ∀ v, DR K W H d' v → Q v H
theorem ix_nest (hu : X.A.units + 65 < cLine) : IxR X (rIxN (kwOf X)) := by
  intro value slc pins s σ H x y v u Q I rx ridx hyp hset
  obtain ⟨W, a, kvs, d, d', rfl, hm, rd, hk, hf, q⟩ := hyp
  cases rx
  obtain ⟨b, rfl⟩ := key_ref rd hk
  cases (show u = Value.ref b from ridx)
  obtain ⟨⟨ds, rfl⟩, k, ek⟩ := keyOk_of hk
  obtain ⟨xls, hx, r, h1, h2, h3, dd⟩ := dic_of I hm
  have nk := nested_of I 8 _ _ (.ref b) k rd rfl ek
  rcases al_find r ek with ⟨e1, _⟩ | ⟨d2, a2, u2, v2, e1, e2, r1, r2⟩
  · rw [e1] at hf; cases hf
  · rw [e1] at hf; cases hf
    refine subscriptTail_builtinR (x := u2) dd.typeIs PySem.F.slot_dict_getitem.lookup (wpAny_getItem_heap (knd := nestedKind X.prog X.w) (show X.A.units + 1 + 8 < cLine by omega) nk dd e2 ⟨rfl, v2, H, I.tok _, r2, q v2 r1⟩) hset
/-- d[k] = v -/
def rSetN (K : Kw) : TSet := fun o i v H Q => ∃ W a kvs d dv, o = .ref a ∧ MR K W H a (.dic kvs) ∧ DR K W H d i ∧ keyOk d = true ∧ DR K W H dv v ∧ kvs.length < sizeLine ∧
  ∀ ho, (∃ ψ, ho = .ext ψ) → (∀ W' H', (∀ d v, DR K W H d v → DR K W' H' d v) → H' a = some ho → MR K W' H' a (.dic (putD kvs d dv))) → Q (upd H a ho)
theorem set_nest (hu : X.A.units + 65 < cLine) : PSet X (rSetN (kwOf X)) := by
  intro pins s σ H o i v objv idxv u Q I ro ri rval hyp
  obtain ⟨W, a, kvs, d, dv, rfl, hm, rd, hk, rdv, hl, q⟩ := hyp
  cases ro
  obtain ⟨b, rfl⟩ := key_ref rd hk
  cases (show idxv = Value.ref b from ri)
  obtain ⟨⟨ds, rfl⟩, k, ek⟩ := keyOk_of hk
  obtain ⟨xls, hx, r, h1, h2, h3, dd⟩ := dic_of I hm
  have nk := nested_of I 8 _ _ (.ref b) k rd rfl ek
  have al := al_put r ek (b := b) rd rdv rval
  have hz : (storedH xls k b u).length ≤ sizeLine := by
    have e1 : (putD kvs (.tup ds) dv).length = (storedH xls k b u).length := Paired.length al
    have e2 := putD_len (kvs := kvs) (d := .tup ds) dv
    omega
  refine wpAny_setItem_heap (knd := nestedKind X.prog X.w) (hsz := h2) (show X.A.units + 1 + 8 < cLine by omega) nk dd fun h' dd' hset => ?_
  obtain ⟨o2, es, ep, hq, g2, g3, g4, _, g5⟩ := dd'
  refine ⟨upd H a (dicO (kwOf X) a (storedH xls k b u)), d_write I (by rw [hx]; exact True.intro) hset ⟨o2, hq⟩ ⟨⟨h1, g5, hz, o2, es, ep, hq, g2, g3, g4⟩, ⟨o2, hq⟩, fun ha hb p e => ?_⟩, q _ ⟨_, rfl⟩ fun W' H' mono e => ⟨_, e, Paired.mapP al fun _ _ z => ⟨z.1, mono _ _ z.2.1, let ⟨w, y1, y2⟩ := z.2.2; ⟨w, mono _ _ y1, y2⟩⟩⟩⟩
  obtain ⟨p1, p2, p3, o3, es3, ep3, p4, p5⟩ := p
  exact ⟨p1, p2, p3, o3, es3, ep3, e _ p4, p5⟩
/-- d.get(k, x) -/
def rGetN (K : Kw) : V → List V → Hp → VK → Prop := fun x xs H Q => ∃ W a kvs d y dz z, x = .ref a ∧ xs = [y, z] ∧ MR K W H a (.dic kvs) ∧ DR K W H d y ∧ keyOk d = true ∧ DR K W H dz z ∧ ∀ v, DR K W H ((findD kvs d).getD dz) v → Q v H
theorem mt_getN (hu : X.A.units + 65 < cLine) : MtR X "dict.get" (rGetN (kwOf X)) := by
  intro pins s σ H x xls v uls Q I rx rls hyp
  obtain ⟨W, a, kvs, d, y, dz, z, rfl, rfl, hm, rd, hk, rz, q⟩ := hyp
  cases rx
  obtain ⟨u1, w1, rfl, ridx, rw1⟩ : ∃ u1 w1, uls = [u1, w1] ∧ RelV y u1 ∧ RelV z w1 := by
    cases rls with
    | cons p1 p2 =>
      cases p2 with
      | cons p3 p4 => cases p4; exact ⟨_, _, rfl, p1, p3⟩
  obtain ⟨b, rfl⟩ := key_ref rd hk
  cases (show u1 = Value.ref b from ridx)
  obtain ⟨⟨ds, rfl⟩, k, ek⟩ := keyOk_of hk
  obtain ⟨xls, hx, r, h1, h2, h3, dd⟩ := dic_of I hm
  have nk := nested_of I 8 _ _ (.ref b) k rd rfl ek
  refine call_meetsIn PySem.F.slot_dict_get dd.typeIs PySem.F.entry_dict_get (PySem.F.args_dict_get_3 _ _ _) (meetsH_dict_get_default (nestedKind X.prog X.w) a b h1 w1) ⟨show X.A.units + 1 + 8 < cLine by omega, k, xls, nk, dd, ?_⟩
  rcases al_find r ek with ⟨e1, e2⟩ | ⟨d2, a2, u2, v2, e1, e2, r1, r2⟩
  · rw [e2]
    exact ⟨z, H, I.tok _, rw1, q z (by rw [e1]; exact rz)⟩
  · rw [e2]
    exact ⟨v2, H, I.tok _, r2, q v2 (by rw [e1]; exact r1)⟩
/-- list(d) -/
def rListN (K : Kw) : List V → Hp → VK → Prop := fun xs H Q => ∃ W a kvs, xs = [V.ref a] ∧ MR K W H a (.dic kvs) ∧ ∀ p ys, H p = none → DRs K W H (kvs.map (·.1)) ys → Q (.ref p) (upd H p (.lst ys))
theorem al_keys {K : Kw} {xs : List (NestedKey × Addr × Value)} (r : Al K W H kvs xs) : DRs K W H (kvs.map (·.1)) (xs.map fun x => V.ref x.2.1) := by
  induction r with
  | nil => exact .nil
  | cons h t ih => exact .cons h.2.1 ih
theorem call_listN (hc : X.calm = true) : CallR X (.type "list") (rListN (kwOf X)) := by
  intro pins s σ H xls uls Q I r hyp
  obtain ⟨W, d, kvs, rfl, hm, q⟩ := hyp
  obtain ⟨u, rfl, rx⟩ := r.one
  cases rx
  obtain ⟨kvs0, hx, al, hs, h2, h3, dd⟩ := dic_of I hm
  obtain ⟨o, ens, ep, ho, hx', hdt, he, _, hn⟩ := id dd
  have len1 : ens.size = kvs0.length := size_of_entries he
  refine PySem.W.kdl_call (kdl_raw hs hx' hdt) (I.ok.hd hc) ho (by omega) fun h' tk acc2 c' kp e it => ?_
  have eqa : acc2.toList = kvs0.map fun x => Value.ref x.2.1 := by
    have hlen : acc2.toList.length = kvs0.length := by rw [Array.length_toList, it.1]; exact len1
    apply List.ext_getElem?
    intro j
    rw [List.getElem?_map]
    cases hj : acc2.toList[j]? with
    | none =>
      have hn1 := List.getElem?_eq_none_iff.mp hj
      rw [List.getElem?_eq_none (by omega)]
      all_goals rfl
    | some v =>
      obtain ⟨ent, hen, hvv⟩ := it.2 j v (by rw [← Array.getElem?_toList]; exact hj)
      have eqe := entry_at he j
      rw [hen] at eqe
      cases hb : kvs0[j]? with
      | none =>
        rw [hb] at eqe
        exact nomatch (show some ent = none from eqe)
      | some b =>
        rw [hb] at eqe
        have e2 : ent = entryOfKey (nestedKind X.prog X.w) b := Option.some.inj eqe
        rw [hvv, e2]
        all_goals rfl
  have eqb : acc2.toList = (kvs0.map fun x => x.2.1).map Value.ref := by rw [eqa, List.map_map]; all_goals rfl
  have rvv : Vals ((kvs0.map fun x => x.2.1).map V.ref) acc2.toList := by rw [eqb]; exact vals_refs _
  have hsz : ((kvs0.map fun x => x.2.1).map V.ref).length ≤ sizeLine := by rw [List.length_map, List.length_map]; omega
  refine ⟨.ref s.heap.objs.size, _, I.laid (t' := tk) (o := .lst ((kvs0.map fun x => x.2.1).map V.ref)) kp (Nat.le_refl _) ?_, rfl, q _ _ (I.hok.fresh (Nat.le_refl _)) ?_⟩
  · exact ⟨hsz, acc2.toList, c', rvv, by rw [Array.toArray_toList]; exact e⟩
  · have := al_keys al
    rw [List.map_map]
    exact this
/-- {} -/
def tDNewN (K : Kw) : TE := fun _ H Q => ∀ p, H p = none → Q (.ref p) (upd H p (dicO K p []))
theorem pe_dnewN {pos : Pos} : PE X (.Dict [] [] pos) (tDNewN (kwOf X)) := ⟨fun pins s σ H Q I h => by
  refine wpAny_Dict_empty ⟨.ref s.heap.objs.size, _, I.laid (a := s.heap.objs.size) (o := dicO (kwOf X) s.heap.objs.size []) (t' := s.toks) (fun _ _ q => Heap.get?_push_of_some _ q) (Nat.le_refl _) ?_, rfl, h _ (I.hok.fresh (Nat.le_refl _))⟩
  refine ⟨⟨beq_eq_false_iff_ne.mpr (Ne.symm (Nat.ne_of_lt I.big)), List.nodup_nil, Nat.zero_le _, _, #[], 0, Heap.get?_push_size _ rfl, ⟨rfl, rfl, rfl⟩, rfl, rfl⟩, ⟨_, Heap.get?_push_size _ rfl⟩, fun ha hb p e => ?_⟩
  obtain ⟨p1, p2, p3, o3, es3, ep3, p4, p5⟩ := p
  exact ⟨p1, p2, p3, o3, es3, ep3, e _ p4, p5⟩⟩
end
end DL

set_option maxRecDepth 100000
namespace DL
open PySem PySem.Spec PyProof.Rows L2

abbrev Mm := List MO
abbrev En := List (Option D)
/-- a call: the def's number, the arguments, the store -/
abbrev CallF := Nat → List D → Mm → Option (D × Mm)

inductive Op | add | sub | mul | fdiv | mod | pow | shl | shr | band | bor
  deriving DecidableEq
inductive Cm | eq | ne | lt | le | gt | ge | isin | notin | is | isnot
  deriving DecidableEq
inductive Blt | len | abs | int | all | any | sum | tuple | list | gcd | max2 | min2 | sortset | sorted
  deriving DecidableEq
inductive Ty | int | bool | str | list | tuple
  deriving DecidableEq
inductive Mth | append | insert | get2
  deriving DecidableEq
/-- targets -/
inductive Tg | nm (i : Nat) | nil | cons (t r : Tg)

inductive E where
  | var (i : Nat)
  | con (d : D)
  | glo (i : Nat) (d : D)
  | tup (es : E)
  | lis (m : Bool) (es : E)
  | dict0 (nested : Bool)
  | nil | cons (e es : E) | star (e es : E)
  | op (o : Op) (m : Bool) (a b : E)
  | cmp (o : Cm) (a b : E)
  | cmp2 (o o' : Cm) (a b c : E)
  | neg (a : E)
  | and (a r : E) | or (a r : E) | one (a : E) | not (a : E)
  | ite (c a b : E)
  | idx (a i : E)
  | sli (m : Bool) (a lo hi : E)
  | call (f : Nat) (es : E)
  | callk (f : Nat) (perm : List Nat) (es ks : E)
  | blt (b : Blt) (m : Bool) (es : E)
  | sset (m : Bool) (a : E)
  | isi (a : E) (ts : List Ty)
  | mth (b : Mth) (m : Bool) (a es : E)
  | comp (m : Bool) (t : Tg) (own : List Nat) (it c e : E)
  | comp2 (m : Bool) (t : Tg) (own : List Nat) (it : E) (t1 : Tg) (own1 : List Nat) (it1 e : E)
  | yes
  | iseq (a : E) | irange1 (a : E) | irange2 (a b : E) | irange3 (a b c : E) | ienum (a : E) | izip (a b : E)

inductive S where
  | nil
  | seq (s r : S)
  | set (t : Tg) (e : E)
  | setc (i : Nat) (e : E)
  | par (is : List Nat) (es : E)
  | put (o i e : E)
  | expr (e : E)
  | ret (e : E)
  | retN
  | ite (c : E) (a b : S)
  | for_ (t : Tg) (it : E) (b : S)
  | while_ (c : E) (b : S)
  | brk | cont | pass
  | never

/-! ### values -/
def lim : Nat := 16777216
def newL (m : Bool) (ds : List D) (M : Mm) : Option (D × Mm) :=
  if ds.length ≤ lim then (if m then some (.ref M.length, M ++ [.lst ds]) else some (.lst ds, M)) else none
def lstOf (M : Mm) : D → Option (List D)
  | .lst ds => some ds
  | .ref n => match M[n]? with | some (.lst ds) => some ds | _ => none
  | _ => none
/-- a list (the script too) or a tuple -/
def seqOf (M : Mm) : D → Option (List D)
  | .tup ds => some ds
  | .lst ds => some ds
  | .fz ds => some ds
  | .ref n => match M[n]? with | some (.lst ds) => some ds | _ => none
  | _ => none
/-- .. or a dict's keys -/
def seqK (M : Mm) : D → Option (List D)
  | .ref n => match M[n]? with | some (.lst ds) => some ds | some (.dic kvs) => some (kvs.map (·.1)) | _ => none
  | d => seqOf M d
/-- pairs of whole numbers, in order -/
def pairI : D → Option (Int × Int)
  | .tup [.int i, .int j] => some (i, j)
  | _ => none
def pair0 (d : D) : Int × Int := (pairI d).getD (0, 0)
def leP (a b : D) : Bool := decide ((pair0 a).1 < (pair0 b).1 ∨ ((pair0 a).1 = (pair0 b).1 ∧ (pair0 a).2 ≤ (pair0 b).2))
def sortP (ds : List D) : List D := ds.mergeSort leP
def dedupD : List D → List D
  | [] => []
  | d :: ds => if d ∈ ds then dedupD ds else d :: dedupD ds
def pairs (ds : List D) : Bool := ds.all fun d => (pairI d).isSome
def intOf : D → Option Int
  | .int i => some i
  | _ => none
/-- as plain data, k deep -/
def toPy : Nat → Mm → D → Option PyData
  | 0, _, _ => none
  | k + 1, M, d => match d with
    | .non => some .none
    | .bl b => some (.bool b)
    | .int i => some (.int i)
    | .str x => if PyData.strOk x then some (.str x) else none
    | .tup ds => (ds.mapM (toPy k M)).map .tuple
    | .lst ds => (ds.mapM (toPy k M)).map .list
    | .fz _ => none
    | .dic _ _ => none
    | .ref n => match M[n]? with | some (.lst ds) => (ds.mapM (toPy k M)).map .list | _ => none
def eqD (M : Mm) (a b : D) : Option Bool := do
  let p ← toPy 60 M a
  let q ← toPy 60 M b
  some (PyData.eqv p q)
def inD (M : Mm) (a b : D) : Option Bool := do
  let p ← toPy 60 M a
  let q ← toPy 60 M b
  match q with
  | .list qs => some (qs.any fun z => PyData.eqv z p)
  | _ => none
def isD : D → D → Option Bool
  | a, .non => some (decide (a = .non))
  | .bl a, .bl b => some (decide (a = b))
  | _, _ => none
def cmI (f : Int → Int → Bool) : D → D → Option Bool
  | .int i, .int j => some (f i j)
  | _, _ => none
def semC (M : Mm) : Cm → D → D → Option Bool
  | .eq, a, b => eqD M a b
  | .ne, a, b => (eqD M a b).map (!·)
  | .lt, a, b => cmI (fun i j => decide (i < j)) a b
  | .le, a, b => cmI (fun i j => decide (i ≤ j)) a b
  | .gt, a, b => cmI (fun i j => decide (j < i)) a b
  | .ge, a, b => cmI (fun i j => decide (j ≤ i)) a b
  | .isin, a, b => inD M a b
  | .notin, a, b => (inD M a b).map (!·)
  | .is, a, b => isD a b
  | .isnot, a, b => (isD a b).map (!·)
def CPowB (i j : Int) : Bool := decide (0 ≤ j) && decide (j ≤ 1000000) && decide (i.natAbs < 2 ^ 64)
def mulB (i j : Int) : Bool := decide (i.natAbs.log2 + j.natAbs.log2 < 1000000)
def divB (j : Int) : Bool := decide (0 < j) && decide (j.natAbs.log2 < 9000)
def iff' (c : Bool) (d : D) (M : Mm) : Option (D × Mm) := if c then some (d, M) else none
def semO (m : Bool) (M : Mm) : Op → D → D → Option (D × Mm)
  | .add, .int i, .int j => some (.int (i + j), M)
  | .add, .tup xs, .tup ys => if xs ≠ [] ∧ xs.length + ys.length ≤ lim then some (.tup (xs ++ ys), M) else none
  | .add, a, b => do
    let xs ← lstOf M a
    let ys ← lstOf M b
    newL m (xs ++ ys) M
  | .sub, .int i, .int j => some (.int (i - j), M)
  | .mul, .int i, .int j => iff' (mulB i j) (.int (i * j)) M
  | .mul, a, .int k => do
    let xs ← lstOf M a
    if -(2 ^ 63) ≤ k ∧ k < 2 ^ 63 ∧ xs.length * k.toNat ≤ lim then newL m (List.replicate k.toNat xs).flatten M else none
  | .fdiv, .int i, .int j => iff' (divB j) (.int (i / j)) M
  | .mod, .int i, .int j => iff' (decide (0 < j)) (.int (i % j)) M
  | .pow, .int i, .int j => iff' (CPowB i j) (.int (i ^ j.toNat)) M
  | .shl, .int i, .int j => iff' (CPowB i j) (.int (i * 2 ^ j.toNat)) M
  | .shr, .int i, .int j => iff' (decide (0 ≤ j)) (.int (i / 2 ^ j.toNat)) M
  | .band, .int i, .int j => some (.int (Builtin.bitAnd i j), M)
  | .bor, .int i, .int j => some (.int (Builtin.bitOr i j), M)
  | _, _, _ => none
def truth (M : Mm) : D → Option Bool
  | .non => some false
  | .bl b => some b
  | .int i => some (i != 0)
  | .tup ds => some (!ds.isEmpty)
  | .lst ds => some (!ds.isEmpty)
  | .ref n => match M[n]? with | some (.lst ds) => some (!ds.isEmpty) | _ => none
  | _ => none
/-- Python's place of an index -/
def ixOf (n : Nat) (i : Int) : Option Nat := ixN n i
def dicOf (M : Mm) : D → Option (List (D × D))
  | .ref n => match M[n]? with | some (.dic kvs) => some kvs | _ => none
  | _ => none
def semIx (M : Mm) (a i : D) : Option D := match dicOf M a with
  | some kvs => if keyOk i then findD kvs i else none
  | none => do
    let xs ← seqOf M a
    let k ← intOf i
    atI xs k
def optI : List D → Option (Option Int)
  | [] => some none
  | [.int i] => some (some i)
  | _ => none
def cutD (xs : List D) (lo hi : Option Int) : List D := (xs.drop (HT.sIx xs.length 0 lo)).take (HT.sIx xs.length xs.length hi - HT.sIx xs.length 0 lo)
def semSl (m : Bool) (M : Mm) (a : D) (lo hi : List D) : Option (D × Mm) := do
  let l ← optI lo
  let h ← optI hi
  match a with
  | .tup xs => if HT.sIx xs.length 0 l = 0 ∧ HT.sIx xs.length xs.length h = xs.length then some (.tup xs, M) else some (.tup (cutD xs l h), M)
  | .fz xs => newL m (cutD xs l h) M
  | a => do
    let xs ← lstOf M a
    newL m (cutD xs l h) M
def blsOf : List D → Option (List Bool)
  | [] => some []
  | .bl b :: r => (blsOf r).map (b :: ·)
  | _ => none
def intsOf : List D → Option (List Int)
  | [] => some []
  | .int b :: r => (intsOf r).map (b :: ·)
  | _ => none
def tyOf (M : Mm) : D → Option Ty
  | .bl _ => some .bool
  | .int _ => some .int
  | .str _ => some .str
  | .tup _ => some .tuple
  | .lst _ => some .list
  | .ref n => match M[n]? with | some (.lst ds) => some .list | _ => none
  | _ => none
def tyLe : Ty → Ty → Bool
  | .bool, .int => true
  | a, b => decide (a = b)
def semIsi (M : Mm) (d : D) (ts : List Ty) : Option Bool := match d with
  | .non => some false
  | d => do
    let t ← tyOf M d
    some (ts.any (tyLe t))
def semB (b : Blt) (m : Bool) (ds : List D) (M : Mm) : Option (D × Mm) :=
  match b, ds with
  | .len, [a] => do let xs ← seqOf M a; if xs.length ≤ lim then some (.int xs.length, M) else none
  | .abs, [.int i] => some (.int (if i < 0 then -i else i), M)
  | .int, [.int i] => some (.int i, M)
  | .int, [.bl b] => some (.int (if b then 1 else 0), M)
  | .all, [a] => do let xs ← lstOf M a; let bs ← blsOf xs; some (.bl (bs.all id), M)
  | .any, [a] => do let xs ← lstOf M a; let bs ← blsOf xs; some (.bl (bs.any id), M)
  | .sum, [a] => do let xs ← lstOf M a; let ns ← intsOf xs; some (.int ns.sum, M)
  | .tuple, [.tup xs] => some (.tup xs, M)
  | .tuple, [a] => do let xs ← lstOf M a; if xs.length ≤ lim then some (.tup xs, M) else none
  | .list, [a] => do let xs ← seqK M a; newL m xs M
  | .sorted, [a] => do let xs ← lstOf M a; if pairs xs then newL m (sortP xs) M else none
  | .sortset, [a] => do let xs ← lstOf M a; if pairs xs ∧ xs.length < 64 then newL m (sortP (dedupD xs)) M else none
  | .gcd, [.int i, .int j] => some (.int (Nat.gcd i.natAbs j.natAbs), M)
  | .max2, [.int i, .int j] => some (.int (if j > i then j else i), M)
  | .min2, [.int i, .int j] => some (.int (if j < i then j else i), M)
  | _, _ => none
def semM (b : Mth) (M : Mm) (a : D) (ds : List D) : Option (D × Mm) :=
  match b, a, ds with
  | .append, .ref n, [d] => match M[n]? with
    | some (.lst xs) => if xs.length < lim then some (.non, M.set n (.lst (xs ++ [d]))) else none
    | _ => none
  | .insert, .ref n, [.int i, d] => match M[n]? with
    | some (.lst xs) => if xs.length < lim ∧ 0 ≤ i ∧ i < 2 ^ 63 then some (.non, M.set n (.lst (xs.take i.toNat ++ [d] ++ xs.drop i.toNat))) else none
    | _ => none
  | .get2, a, [k, x] => do let kvs ← dicOf M a; if keyOk k then some ((findD kvs k).getD x, M) else none
  | _, _, _ => none
def mthOk (b : Mth) (M : Mm) (a : D) : Bool := match b with
  | .append => (lstOf M a).isSome
  | .insert => (lstOf M a).isSome
  | .get2 => (dicOf M a).isSome
/-- o[i] = d -/
def semPut (M : Mm) (o i d : D) : Option Mm := match o with
  | .ref n => match M[n]? with
    | some (.lst xs) => do
      let k ← intOf i
      let j ← ixN xs.length k
      some (M.set n (.lst (xs.set j d)))
    | some (.dic kvs) => if keyOk i && decide (kvs.length < lim) then some (M.set n (.dic (putD kvs i d))) else none
    | _ => none
  | _ => none

/-! ### targets -/
def asg : Tg → D → En → Option En
  | .nm i, d, env => some (env.set i (some d))
  | .nil, .tup [], env => some env
  | .cons t r, .tup (d :: ds), env => (asg t d env).bind fun env => asg r (.tup ds) env
  | _, _, _ => none

/-! ### the machine -/
/-- what is walked: the lists of the store that must stand, the items -/
structure ItD where
  src : List (Nat × List D)
  items : List D
def chks (src : List (Nat × List D)) (M : Mm) : Bool := src.all fun p => decide (M[p.1]? = some (.lst p.2))
def compGo (cond : En → Mm → Option (Bool × Mm)) (elt : En → Mm → Option (D × Mm)) (t : Tg) (src : List (Nat × List D)) (env : En) : List D → List D → Mm → Option (List D × Mm)
  | [], acc, M => if chks src M then some (acc, M) else none
  | d :: ds, acc, M => if chks src M then
      (asg t d env).bind fun env1 => (cond env1 M).bind fun p => if p.1 then (elt env1 p.2).bind fun q => compGo cond elt t src env ds (acc ++ [q.1]) q.2 else compGo cond elt t src env ds acc p.2
    else none
def comp2Go (inner : En → List D → Mm → Option (List D × Mm)) (t : Tg) (src : List (Nat × List D)) (env : En) : List D → List D → Mm → Option (List D × Mm)
  | [], acc, M => if chks src M then some (acc, M) else none
  | d :: ds, acc, M => if chks src M then
      (asg t d env).bind fun env1 => (inner env1 acc M).bind fun q => comp2Go inner t src env ds q.1 q.2
    else none
inductive Fl | nx | rt (d : D) | bk | ct
def forGo (body : En → Mm → Option (Fl × En × Mm)) (t : Tg) (src : List (Nat × List D)) : List D → En → Mm → Option (Fl × En × Mm)
  | [], env, M => if chks src M then some (.nx, env, M) else none
  | d :: ds, env, M => if chks src M then
      (asg t d env).bind fun env1 => (body env1 M).bind fun r => match r with
        | (.nx, env2, M2) => forGo body t src ds env2 M2
        | (.ct, env2, M2) => forGo body t src ds env2 M2
        | (.bk, env2, M2) => some (.nx, env2, M2)
        | (.rt v, env2, M2) => some (.rt v, env2, M2)
    else none
def whileGo (c : En → Mm → Option (Bool × Mm)) (body : En → Mm → Option (Fl × En × Mm)) : Nat → En → Mm → Option (Fl × En × Mm)
  | 0, _, _ => none
  | n + 1, env, M => (c env M).bind fun p => if p.1 then (body env p.2).bind fun r => match r with
        | (.nx, env2, M2) => whileGo c body n env2 M2
        | (.ct, env2, M2) => whileGo c body n env2 M2
        | (.bk, env2, M2) => some (.nx, env2, M2)
        | (.rt v, env2, M2) => some (.rt v, env2, M2)
      else some (.nx, env, p.2)
def wfuel : Nat := 1099511627776
def in62 (i : Int) : Bool := decide (-(2 ^ 62) ≤ i) && decide (i < 2 ^ 62)
def rangeD (lo : Int) (n : Nat) : List D := (List.range n).map fun i => .int (lo + (i : Nat))
def rangeC (lo c : Int) (n : Nat) : List D := (List.range n).map fun i => .int (lo + (i : Nat) * c)
/-- the number of turns of range(i, j, c) -/
def rangeN (i j c : Int) : Nat := if 0 < c then ((j - i + c - 1) / c).toNat else ((i - j + -c - 1) / (-c)).toNat
def itOf (M : Mm) : D → Option ItD
  | .ref n => match M[n]? with | some (.lst ds) => some ⟨[(n, ds)], ds⟩ | _ => none
  | .lst ds => some ⟨[], ds⟩
  | .tup ds => some ⟨[], ds⟩
  | .fz ds => some ⟨[], ds⟩
  | _ => none
def itL (M : Mm) : D → Option ItD
  | .ref n => match M[n]? with | some (.lst ds) => some ⟨[(n, ds)], ds⟩ | _ => none
  | .lst ds => some ⟨[], ds⟩
  | .fz ds => some ⟨[], ds⟩
  | _ => none
def enumD (k : Nat) : List D → List D
  | [] => []
  | d :: ds => .tup [.int (k : Nat), d] :: enumD (k + 1) ds
def zipD : List D → List D → List D
  | a :: as, b :: bs => .tup [a, b] :: zipD as bs
  | _, _ => []
def sets : List Nat → List D → En → En
  | i :: is, d :: ds, env => sets is ds (env.set i (some d))
  | _, _, env => env
section
variable (call : CallF)
mutual
def evE : E → En → Mm → Option (D × Mm)
  | .var i, env, M => match env[i]? with | some (some d) => some (d, M) | _ => none
  | .con d, _, M => some (d, M)
  | .glo _ d, _, M => some (d, M)
  | .tup es, env, M => (evEs es env M).bind fun p => if p.1.length ≤ lim then some (.tup p.1, p.2) else none
  | .lis m es, env, M => (evEs es env M).bind fun p => newL m p.1 p.2
  | .dict0 t, _, M => if t then some (.ref M.length, M ++ [.dic []]) else none
  | .op o m a b, env, M => (evE a env M).bind fun p => (evE b env p.2).bind fun q => semO m q.2 o p.1 q.1
  | .cmp o a b, env, M => (evE a env M).bind fun p => (evE b env p.2).bind fun q => (semC q.2 o p.1 q.1).map fun r => (.bl r, q.2)
  | .cmp2 o o' a b c, env, M => (evE a env M).bind fun p => (evE b env p.2).bind fun q => (semC q.2 o p.1 q.1).bind fun r =>
      if r then (evE c env q.2).bind fun u => (semC u.2 o' q.1 u.1).map fun r => (.bl r, u.2) else some (.bl false, q.2)
  | .neg a, env, M => (evE a env M).bind fun p => (intOf p.1).map fun i => (.int (-i), p.2)
  | .and a r, env, M => (evE a env M).bind fun p => match p.1 with | .bl true => evE r env p.2 | .bl false => some (.bl false, p.2) | _ => none
  | .or a r, env, M => (evE a env M).bind fun p => match p.1 with | .bl false => evE r env p.2 | .bl true => some (.bl true, p.2) | _ => none
  | .one a, env, M => evE a env M
  | .not a, env, M => (evE a env M).bind fun p => match p.1 with | .bl b => some (.bl (!b), p.2) | _ => none
  | .ite c a b, env, M => (evT c env M).bind fun p => if p.1 then evE a env p.2 else evE b env p.2
  | .idx a i, env, M => (evE a env M).bind fun p => (evE i env p.2).bind fun q => (semIx q.2 p.1 q.1).map fun d => (d, q.2)
  | .sli m a lo hi, env, M => (evE a env M).bind fun p => (evEs lo env p.2).bind fun q => (evEs hi env q.2).bind fun u => semSl m u.2 p.1 q.1 u.1
  | .call f es, env, M => (evEs es env M).bind fun p => call f p.1 p.2
  | .callk f perm es ks, env, M => (evEs es env M).bind fun p => (evEs ks env p.2).bind fun q => call f (perm.map fun j => (p.1 ++ q.1).getD j .non) q.2
  | .blt b m es, env, M => (evEs es env M).bind fun p => semB b m p.1 p.2
  | .sset m a, env, M => (evE a env M).bind fun p => semB .sortset m [p.1] p.2
  | .isi a ts, env, M => (evE a env M).bind fun p => (semIsi p.2 p.1 ts).map fun r => (.bl r, p.2)
  | .mth b m a es, env, M => (evE a env M).bind fun p => if mthOk b p.2 p.1 then (evEs es env p.2).bind fun q => semM b q.2 p.1 q.1 else none
  | .comp m t own it c e, env, M => (evIt it env M).bind fun p =>
      (compGo (fun env M => evT c env M) (fun env M => evE e env M) t p.1.src (wipeD env own) p.1.items [] p.2).bind fun q => newL m q.1 q.2
  | .comp2 m t own it t1 own1 it1 e, env, M => (evIt it env M).bind fun p =>
      (comp2Go (fun env acc M => (evIt it1 env M).bind fun p => compGo (fun _ M => some (true, M)) (fun env M => evE e env M) t1 p.1.src (wipeD env own1) p.1.items acc p.2) t p.1.src (wipeD env own) p.1.items [] p.2).bind fun q => newL m q.1 q.2
  | _, _, _ => none
def evEs : E → En → Mm → Option (List D × Mm)
  | .nil, _, M => some ([], M)
  | .cons e es, env, M => (evE e env M).bind fun p => (evEs es env p.2).bind fun q => some (p.1 :: q.1, q.2)
  | .star e es, env, M => (evE e env M).bind fun p => (seqOf p.2 p.1).bind fun xs => (evEs es env p.2).bind fun q => some (xs ++ q.1, q.2)
  | _, _, _ => none
def evT : E → En → Mm → Option (Bool × Mm)
  | .yes, _, M => some (true, M)
  | .not a, env, M => (evT a env M).bind fun p => some (!p.1, p.2)
  | .and a r, env, M => (evT a env M).bind fun p => if p.1 then evT r env p.2 else some (false, p.2)
  | .or a r, env, M => (evT a env M).bind fun p => if p.1 then some (true, p.2) else evT r env p.2
  | .one a, env, M => evT a env M
  | .cmp o a b, env, M => (evE a env M).bind fun p => (evE b env p.2).bind fun q => (semC q.2 o p.1 q.1).map fun r => (r, q.2)
  | .cmp2 o o' a b c, env, M => (evE a env M).bind fun p => (evE b env p.2).bind fun q => (semC q.2 o p.1 q.1).bind fun r =>
      if r then (evE c env q.2).bind fun u => (semC u.2 o' q.1 u.1).map fun r => (r, u.2) else some (false, q.2)
  | .var i, env, M => match env[i]? with | some (some d) => (truth M d).map fun b => (b, M) | _ => none
  | .idx a i, env, M => (evE a env M).bind fun p => (evE i env p.2).bind fun q => (semIx q.2 p.1 q.1).bind fun d => (truth q.2 d).map fun b => (b, q.2)
  | .op o m a b, env, M => (evE a env M).bind fun p => (evE b env p.2).bind fun q => (semO m q.2 o p.1 q.1).bind fun u => (truth u.2 u.1).map fun b => (b, u.2)
  | .call f es, env, M => (evEs es env M).bind fun p => (call f p.1 p.2).bind fun u => (truth u.2 u.1).map fun b => (b, u.2)
  | .callk f perm es ks, env, M => (evEs es env M).bind fun p => (evEs ks env p.2).bind fun q => (call f (perm.map fun j => (p.1 ++ q.1).getD j .non) q.2).bind fun u => (truth u.2 u.1).map fun b => (b, u.2)
  | .blt b m es, env, M => (evEs es env M).bind fun p => (semB b m p.1 p.2).bind fun u => (truth u.2 u.1).map fun b => (b, u.2)
  | .isi a ts, env, M => (evE a env M).bind fun p => (semIsi p.2 p.1 ts).map fun r => (r, p.2)
  | _, _, _ => none
def evIt : E → En → Mm → Option (ItD × Mm)
  | .iseq a, env, M => (evE a env M).bind fun p => (itOf p.2 p.1).map fun i => (i, p.2)
  | .irange1 a, env, M => (evE a env M).bind fun p => match p.1 with | .int j => if in62 j then some (⟨[], rangeD 0 j.toNat⟩, p.2) else none | _ => none
  | .irange2 a b, env, M => (evE a env M).bind fun p => (evE b env p.2).bind fun q => match p.1, q.1 with
      | .int i, .int j => if in62 i && in62 j then some (⟨[], rangeD i (j - i).toNat⟩, q.2) else none | _, _ => none
  | .irange3 a b c, env, M => (evE a env M).bind fun p => (evE b env p.2).bind fun q => (evE c env q.2).bind fun u => match p.1, q.1, u.1 with
      | .int i, .int j, .int k => if in62 i && in62 j && decide (k = -1) then some (⟨[], rangeC i (-1) (i - j).toNat⟩, u.2) else none | _, _, _ => none
  | .ienum a, env, M => (evE a env M).bind fun p => (itL p.2 p.1).map fun i => (⟨i.src, enumD 0 i.items⟩, p.2)
  | .izip a b, env, M => (evE a env M).bind fun p => (evE b env p.2).bind fun q => (itL q.2 p.1).bind fun i => (itL q.2 q.1).map fun j => (⟨i.src ++ j.src, zipD i.items j.items⟩, q.2)
  | _, _, _ => none
end
def exS : S → En → Mm → Option (Fl × En × Mm)
  | .nil, env, M => some (.nx, env, M)
  | .seq s r, env, M => (exS s env M).bind fun q => match q with
      | (.nx, env2, M2) => exS r env2 M2
      | q => some q
  | .set t e, env, M => (evE call e env M).bind fun p => (asg t p.1 env).map fun env2 => (.nx, env2, p.2)
  | .setc i e, env, M => (evE call e env M).bind fun p => some (.nx, env.set i (some p.1), p.2)
  | .par is es, env, M => (evEs call es env M).bind fun p => some (.nx, sets is p.1 env, p.2)
  | .put o i e, env, M => (evE call e env M).bind fun p => (evE call o env p.2).bind fun q => (evE call i env q.2).bind fun u => (semPut u.2 q.1 u.1 p.1).map fun M2 => (.nx, env, M2)
  | .expr e, env, M => (evE call e env M).bind fun p => some (.nx, env, p.2)
  | .ret e, env, M => (evE call e env M).bind fun p => some (.rt p.1, env, p.2)
  | .retN, env, M => some (.rt .non, env, M)
  | .ite c a b, env, M => (evT call c env M).bind fun p => if p.1 then exS a env p.2 else exS b env p.2
  | .for_ t it b, env, M => (evIt call it env M).bind fun p => forGo (fun env M => exS b env M) t p.1.src p.1.items env p.2
  | .while_ c b, env, M => whileGo (fun env M => evT call c env M) (fun env M => exS b env M) wfuel env M
  | .brk, env, M => some (.bk, env, M)
  | .cont, env, M => some (.ct, env, M)
  | .pass, env, M => some (.nx, env, M)
  | .never, _, _ => none
end
/-! ### calls -/
structure Df where
  np : Nat
  ns : Nat
  fz : Bool
  body : S
mutual
/-- speaks of no object from n on -/
def cl (n : Nat) : D → Bool
  | .tup ds => cls n ds
  | .lst ds => cls n ds
  | .fz ds => cls n ds
  | .dic ks vs => cls n ks && cls n vs
  | .ref m => decide (m < n)
  | _ => true
def cls (n : Nat) : List D → Bool
  | [] => true
  | d :: ds => cl n d && cls n ds
end
def clO (n : Nat) : MO → Bool
  | .lst ds => cls n ds
  | .dic kvs => kvs.all fun p => cl n p.1 && cl n p.2
/-- objects from n on as values -/
def frz (n : Nat) (M : Mm) : Nat → D → Option D
  | 0, _ => none
  | k + 1, d => if cl n d then some d else match d with
    | .tup ds => (ds.mapM (frz n M k)).map .tup
    | .ref m => if m < n then some (.ref m) else match M[m]? with
      | some (.lst ds) => (ds.mapM (frz n M k)).map .lst
      | _ => none
    | _ => none
def okTake (M M' : Mm) : Bool := (List.range M.length).all fun k => decide (M'[k]? = M[k]?) || (M'[k]?).all (clO M.length)
def retOf (fz : Bool) (M : Mm) (d : D) (M' : Mm) : Option (D × Mm) :=
  if M'.length ≤ M.length then some (d, M') else if fz then (if okTake M M' then (frz M.length M' 8 d).map fun d => (d, M'.take M.length) else none) else some (d, M')
def callN (defs : List Df) : Nat → CallF
  | 0, _, _, _ => none
  | k + 1, f, ds, M => match defs[f]? with
    | some df => if ds.length = df.np ∧ df.np ≤ df.ns then match exS (callN defs k) df.body (ds.map some ++ List.replicate (df.ns - df.np) none) M with
        | some (.rt d, _, M') => retOf df.fz M d M'
        | some (.nx, _, M') => retOf df.fz M .non M'
        | _ => none
      else none
    | none => none
end DL

set_option maxRecDepth 100000
namespace DL
open PySem PySem.Spec PyProof.Rows L2 PySem.W

/-! ### pairs of whole numbers in order -/
theorem leP_total (a b : D) : (leP a b || leP b a) = true := by
  unfold leP
  simp only [Bool.or_eq_true, decide_eq_true_eq]
  omega
theorem leP_trans (a b c : D) : leP a b = true → leP b c = true → leP a c = true := by
  unfold leP
  simp only [decide_eq_true_eq]
  omega
theorem pairI_some {d : D} {z : Int × Int} (h : pairI d = some z) : d = .tup [.int z.1, .int z.2] := by
  unfold pairI at h
  split at h
  · cases h; rfl
  · cases h
theorem pairs_mem {ds : List D} (h : pairs ds = true) {d : D} (m : d ∈ ds) : d = .tup [.int (pair0 d).1, .int (pair0 d).2] := by
  unfold pairs at h
  rw [List.all_eq_true] at h
  obtain ⟨z, hz⟩ := Option.isSome_iff_exists.mp (h d m)
  have := pairI_some hz
  rw [this]
  rfl
theorem leP_anti {ds : List D} (h : pairs ds = true) {a b : D} (ma : a ∈ ds) (mb : b ∈ ds) (h1 : leP a b = true) (h2 : leP b a = true) : a = b := by
  rw [pairs_mem h ma, pairs_mem h mb]
  unfold leP at h1 h2
  simp only [decide_eq_true_eq] at h1 h2
  have e1 : (pair0 a).1 = (pair0 b).1 := by omega
  have e2 : (pair0 a).2 = (pair0 b).2 := by omega
  rw [e1, e2]
theorem sortP_perm (ds : List D) : (sortP ds).Perm ds := List.mergeSort_perm _ _
theorem sortP_sorted (ds : List D) : (sortP ds).Pairwise (fun a b => leP a b = true) := List.pairwise_mergeSort leP_trans leP_total ds
theorem mem_dedupD {d : D} : ∀ {ds : List D}, d ∈ dedupD ds ↔ d ∈ ds
  | [] => by simp [dedupD]
  | e :: ds => by
    unfold dedupD
    by_cases h : e ∈ ds
    · rw [if_pos h, mem_dedupD]
      constructor
      · exact fun m => List.mem_cons_of_mem _ m
      · intro m
        rcases List.mem_cons.mp m with q | q
        · rw [q]; exact h
        · exact q
    · rw [if_neg h, List.mem_cons, List.mem_cons, mem_dedupD]
theorem nodup_dedupD : ∀ ds : List D, (dedupD ds).Nodup
  | [] => List.nodup_nil
  | e :: ds => by
    unfold dedupD
    by_cases h : e ∈ ds
    · rw [if_pos h]; exact nodup_dedupD ds
    · rw [if_neg h]
      exact List.nodup_cons.mpr ⟨fun m => h (mem_dedupD.mp m), nodup_dedupD ds⟩
theorem pairs_dedup {ds : List D} (h : pairs ds = true) : pairs (dedupD ds) = true := by
  unfold pairs at h ⊢
  rw [List.all_eq_true] at h ⊢
  exact fun d m => h d (mem_dedupD.mp m)
/-- one order -/
theorem sortP_uniq {ds es : List D} (h : pairs ds = true) (p : es.Perm ds) (s : es.Pairwise (fun a b => leP a b = true)) : es = sortP ds := by
  refine List.Perm.eq_of_pairwise (le := fun a b => leP a b = true) (fun a b ma mb h1 h2 => leP_anti h (p.mem_iff.mp ma) ((sortP_perm ds).mem_iff.mp mb) h1 h2) s (sortP_sorted ds) (p.trans (sortP_perm ds).symm)

section
variable {K : Kw} {W : Wd} {H : Hp}
theorem DRs.mem2 : ∀ {ds : List D} {xs : List V} {p : D × V}, DRs K W H ds xs → p ∈ ds.zip xs → DR K W H p.1 p.2
  | [], _, _, _, m => by simp at m
  | d :: ds, xs, p, r, m => by
    simp only [DRs] at r
    obtain ⟨v, us, rfl, r1, r2⟩ := r
    rw [List.zip_cons_cons] at m
    rcases List.mem_cons.mp m with e | m
    · rw [e]; exact r1
    · exact DRs.mem2 r2 m
theorem DRs.of_pairs : ∀ (l : List (D × V)), (∀ p ∈ l, DR K W H p.1 p.2) → DRs K W H (l.map (·.1)) (l.map (·.2))
  | [], _ => .nil
  | p :: l, h => .cons (h p List.mem_cons_self) (DRs.of_pairs l fun q m => h q (List.mem_cons_of_mem _ m))
end
section
variable {X : Cx} {pins : List (Addr × Obj)} {σ : L2.St} {H : Hp} {s : Shared} {W : Wd}
abbrev encP (d : D) : PyData := .tuple [.int (pair0 d).1, .int (pair0 d).2]
theorem dataLe_P : dataLe false (fun p : D × V => encP p.1) = fun p q => leP p.1 q.1 := by
  rw [dataLe_ii (fun p : D × V => (pair0 p.1).1) (fun p : D × V => (pair0 p.1).2)]
  rfl
theorem reads_pair {x y : Int} {h : Heap} {u : Value} {t : Addr} {its : List Value} (e : u = .ref t) (r : Vals [.int x, .int y] its) (ht : IsTup h t its.toArray) : ∃ as, Reads h u (.tuple [.int x, .int y]) as := by
  obtain ⟨o, ho, hc, n, hd⟩ := ht
  obtain ⟨u1, u2, rfl, ⟨t1, rfl⟩, ⟨t2, rfl⟩⟩ := vals2 r
  subst e
  exact ⟨_, .tuple ho hc hd (.cons (.int _ _) (.cons (.int _ _) .nil))⟩
theorem pair_in (I : Inv X pins σ H s) {d : D} {v : V} {u : Value} (r : DR (kwOf X) W H d v) (ru : RelV v u) (h : d = .tup [.int (pair0 d).1, .int (pair0 d).2]) : (∃ as, Reads s.heap u (encP d) as) ∧ ∃ t, v = .ref t ∧ SqT X.K H t ([(pair0 d).1, (pair0 d).2].map V.int) := by
  generalize pair0 d = z at h ⊢
  subst h
  simp only [DR] at r
  obtain ⟨a, xs, rfl, t, r⟩ := r
  simp only [DRs, DR] at r
  obtain ⟨v1, l1, rfl, rfl, v2, l2, rfl, rfl, rfl⟩ := r
  obtain ⟨its, rv, ht, _⟩ := I.tuple t.sqt
  exact ⟨reads_pair (show u = .ref a from ru) rv ht, a, rfl, t.sqt⟩
/-- sorted(xs), xs a list of pairs -/
def rSortP (K : Kw) : List V → Hp → VK → Prop := fun vs H Q => ∃ W a xs ds, vs = [V.ref a] ∧ SqL K.k H a xs ∧ DRs K W H ds xs ∧ pairs ds = true ∧ ∀ p ys, H p = none → DRs K W H (sortP ds) ys → Q (.ref p) (upd H p (.lst ys))
theorem cr_sortP (hu : X.A.units + 65 < cLine) : CallR X (.builtin "sorted") (rSortP (kwOf X)) := by
  intro pins s σ H vls uls Q I r hyp
  obtain ⟨W, a, xs, ds, rfl, hs, rd, hp, q⟩ := hyp
  obtain ⟨itm, rv, hlst, hsz⟩ := I.list hs
  rw [Vals.ref1 r]
  let bs := ds.zip xs
  have lb : bs.map (·.1) = ds := List.map_fst_zip (Nat.le_of_eq rd.length)
  have lx : bs.map (·.2) = xs := List.map_snd_zip (Nat.le_of_eq rd.length.symm)
  have hb : ∀ p ∈ bs, DR (kwOf X) W H p.1 p.2 := fun p m => rd.mem2 m
  have hm : ∀ p ∈ bs, p.1 = .tup [.int (pair0 p.1).1, .int (pair0 p.1).2] := fun p m => pairs_mem hp (by rw [← lb]; exact List.mem_map.mpr ⟨p, m, rfl⟩)
  have each : EachIs (fun (v : Value) (p : D × V) => RelV p.2 v ∧ p ∈ bs) itm bs := by
    have : ∀ (l : List (D × V)) (vls : List Value), (∀ p ∈ l, p ∈ bs) → Vals (l.map (·.2)) vls → EachIs (fun (v : Value) (p : D × V) => RelV p.2 v ∧ p ∈ bs) vls l := by
      intro l
      induction l with
      | nil => intro vls _ r; cases r; exact .nil
      | cons p l ih =>
        intro vls hlst r
        cases r with
        | cons r1 r2 => exact .cons ⟨r1, hlst p List.mem_cons_self⟩ (ih _ (fun q m => hlst q (List.mem_cons_of_mem _ m)) r2)
    exact this bs itm (fun _ m => m) (by rw [lx]; exact rv)
  refine sorted_data (R := fun (v : Value) (p : D × V) => RelV p.2 v ∧ p ∈ bs) (enc := fun p : D × V => encP p.1) hlst.isList each (each.mono fun v p ⟨r, m⟩ => (pair_in I (hb p m) r (hm p m)).1) (AllAlike.of fun b b' => rfl) (Sortable.tuples fun b => ⟨_, _, rfl⟩) ?_ (fun b _ => ?_) fun out ho he => ?_
  · rw [← List.length_map (f := fun p : D × V => p.2), lx]; exact hsz
  · have e : (encP b.1).depth = 1 := rfl
    rw [e]
    omega
  · rw [dataLe_P] at he
    have pm := List.mergeSort_perm bs (fun p q => leP p.1 q.1)
    generalize hg : bs.mergeSort (fun p q => leP p.1 q.1) = cs at he pm
    have e1 : cs.map (·.1) = sortP ds := by
      rw [← hg, List.map_mergeSort (s := leP) (fun _ _ _ _ => rfl), lb]
      rfl
    have rc : Vals (cs.map (·.2)) out := by
      clear e1 hg pm ho
      induction he with
      | nil => exact .nil
      | cons hyp t ih => exact .cons hyp.1 ih
    have hlen : (cs.map (·.2)).length ≤ sizeLine := by
      rw [List.length_map, pm.length_eq, ← List.length_map (f := fun p : D × V => p.2), lx]; exact hsz
    obtain ⟨ep, hat⟩ := sortedAll_at s.heap itm out.toArray
    refine ⟨.ref _, upd H (s.heap.objs.size + 1) (.lst (cs.map (·.2))), I.laid (t' := s.toks) (fun _ _ => sortedAll_old) (Nat.le_succ _) ⟨hlen, out, ep, rc, hat⟩, rfl, q _ _ (I.hok.fresh (Nat.le_succ _)) ?_⟩
    rw [← e1]
    exact DRs.of_pairs cs fun p m => hb p (pm.mem_iff.mp m)
end

/-! ### sorted(set(xs)) -/
theorem setT_len {P : Program} {w : World} {h : Heap} {a : Addr} {L : List (Addr × List Int)} {es : Array (Int × Value)} {ep : Nat} {t : SetTable} (R : SetTR P w h a L es ep t) : L.length < 64 := R.few
abbrev le2 (q r : Addr × List Int) : Bool := decide (q.2.getD 0 0 < r.2.getD 0 0 ∨ (q.2.getD 0 0 = r.2.getD 0 0 ∧ q.2.getD 1 0 ≤ r.2.getD 1 0))
abbrev enc2 (q : Addr × List Int) : PyData := .tuple [.int (q.2.getD 0 0), .int (q.2.getD 1 0)]
theorem dataLe_2 : dataLe false enc2 = le2 := dataLe_ii (fun q : Addr × List Int => q.2.getD 0 0) (fun q : Addr × List Int => q.2.getD 1 0)
theorem len2 {ns : List Int} (h : ns.length = 2) : ns = [ns.getD 0 0, ns.getD 1 0] := by
  match ns, h with
  | [x, y], _ => rfl
section
variable {P : Program} {w : World} {A : Around} {E : Value → Shared → Prop} {s : Shared}
theorem reads_ints {h : Heap} {ns : List Int} {b : Addr} (hn : ns.length = 2) (x : TS.TupInts h (.ref b) ns) : ∃ as, Reads h (.ref b) (.tuple [.int (ns.getD 0 0), .int (ns.getD 1 0)]) as ∧ as = [] := by
  obtain ⟨a, xs, e, ⟨o, ho, hc, n, hd⟩, i⟩ := x
  cases e
  rw [len2 hn] at i
  generalize hl : xs.toList = l at i
  cases i with
  | cons _ t1 i =>
    cases i with
    | cons _ t2 i =>
      cases i
      exact ⟨[], .tuple ho hc hd (by rw [hl]; exact .cons (as := []) (.int _ _) (.cons (as := []) (.int _ _) .nil)), rfl⟩
theorem sorted_set2 {a : Addr} {Rs : List (Addr × List Int)} {ens : Array (Int × Value)} {ep : Nat} {t : SetTable} {Q : Value → Shared → Prop} (R : SetTR P w s.heap a Rs ens ep t) (hh : A.handled = none) (hu : A.units + 10 < cLine) (hB : ∀ p ∈ Rs, p.2.length = 2)
    (hQ : ∀ sn p (res : Array Value) (c : Nat) (Rb : List (Addr × List Int)), (∀ b o, s.heap.get? b = some o → sn.heap.get? b = some o) → sn.gens = s.gens → sn.os = s.os → s.heap.objs.size ≤ p →
      sn.heap.get? p = some (seqObj "list" res c) → res.toList = Rb.map (fun q => Value.ref q.1) → Rb.Perm Rs → Rb.Pairwise (fun q r => le2 q r = true) → Q (.ref p) sn) :
    wpAny (model P w) A (call (.builtin "sorted") [.ref a]) Q E s := by
  obtain ⟨o, ho, hex, hd⟩ := R.ob
  have hsz := R.size
  have few := R.few
  refine Calls.call_function_entry kind_sorted plain_sorted entry_sorted (args_sorted1 _) ?_
  unfold Builtin.«sorted»
  refine wpAny_bind (m := checkCount "sorted" 1 1 _) (wpAny_pure ?_)
  refine wpAny_bind (collect_set (A := A.in1) hh ⟨o, ho, hex.1, hd⟩ R.fits (by unfold scanBound; omega) R.tab.ris R.led fun sm vls keep1 hz g1 o1 prm => ?_)
  have hes : ens.toList.map (·.2) = Rs.map fun q => Value.ref q.1 := by
    rw [R.rows]
    unfold L2.rowsOf
    rw [List.map_map] <;> rfl
  rw [hes] at prm
  have ord : ∀ vls : List Value, (∀ v ∈ vls, ∃ q ∈ Rs, v = Value.ref q.1) → ∃ Ra : List (Addr × List Int), vls = Ra.map (fun q => Value.ref q.1) ∧ ∀ q ∈ Ra, q ∈ Rs := by
    intro vls
    induction vls with
    | nil => intro _; exact ⟨[], rfl, fun q mq => (by cases mq)⟩
    | cons v vls ih =>
      intro hv
      obtain ⟨q, mq, e⟩ := hv v List.mem_cons_self
      obtain ⟨Ra, e1, hs⟩ := ih fun u hu => hv u (List.mem_cons_of_mem _ hu)
      refine ⟨q :: Ra, by rw [List.map_cons, e, e1], fun r hr => ?_⟩
      rcases List.mem_cons.mp hr with z | z
      · rw [z]; exact mq
      · exact hs r z
  have one : ∀ q ∈ Rs, ∀ r ∈ Rs, q.1 = r.1 → q = r := fun q mq r hr e => by
    have a1 := R.tup q mq
    have a2 := R.tup r hr
    rw [e] at a1
    exact Prod.ext e (a1.inj a2)
  have nRs : Rs.Nodup := nodup_of_map R.nd
  have nref : (Rs.map fun q => Value.ref q.1).Nodup := by
    refine List.pairwise_map.mpr (List.Pairwise.imp_of_mem (fun {q r} mq hr hne e => ?_) nRs)
    injection e with e
    exact hne (one q mq r hr e)
  obtain ⟨Ra, e1, hs1⟩ := ord vls fun v hv => by
    obtain ⟨q, mq, e⟩ := List.mem_map.mp (prm.mem_iff.mp hv)
    exact ⟨q, mq, e.symm⟩
  have p1 : Ra.Perm Rs := by
    rw [e1] at prm
    have n1 : Ra.Nodup := nodup_of_map (prm.nodup_iff.mpr nref)
    refine (List.perm_ext_iff_of_nodup n1 nRs).mpr fun q => ⟨hs1 q, fun mq => ?_⟩
    have mref : Value.ref q.1 ∈ Ra.map (fun q => Value.ref q.1) := prm.mem_iff.mpr (List.mem_map.mpr ⟨q, mq, rfl⟩)
    obtain ⟨r, hr, e⟩ := List.mem_map.mp mref
    injection e with e
    rw [← one r (hs1 r hr) q mq e]
    exact hr
  have hvl : vls.length < 64 := by rw [prm.length_eq, List.length_map]; exact few
  refine wpAny_bind (wpAny_newList ?_ (by rw [sizeLine_eq]; omega))
  have hob : (sm.heap.push (seqObj "list" vls.toArray 0)).get? sm.heap.objs.size = some (seqObj "list" vls.toArray 0) := Heap.get?_push_size _ rfl
  have tup2 : ∀ q ∈ Rs, TS.TupInts (sm.heap.push (seqObj "list" vls.toArray 0)) (.ref q.1) q.2 := fun q mq => tupInts_of (P := P) (w := w) (isT_keep (R.tup q mq) fun b u e => Heap.get?_push_of_some _ (keep1 b u e))
  have rowsR : EachIs (fun (v : Value) (q : Addr × List Int) => v = .ref q.1 ∧ q ∈ Rs) vls Ra := by
    have : ∀ l : List (Addr × List Int), (∀ q ∈ l, q ∈ Rs) → EachIs (fun (v : Value) (q : Addr × List Int) => v = .ref q.1 ∧ q ∈ Rs) (l.map fun q => Value.ref q.1) l := by
      intro l
      induction l with
      | nil => intro _; exact .nil
      | cons q l ih => intro h; exact .cons ⟨rfl, h q List.mem_cons_self⟩ (ih fun r m => h r (List.mem_cons_of_mem _ m))
    rw [e1]; exact this Ra hs1
  have er : EachIs (fun v q => ∃ as, Reads (sm.heap.push (seqObj "list" vls.toArray 0)) v (enc2 q) as ∧ sm.heap.objs.size ∉ as) vls Ra := rowsR.mono fun v q ⟨e, m⟩ => by
    subst e
    obtain ⟨as, r, rfl⟩ := reads_ints (hB q m) (tup2 q m)
    exact ⟨[], r, by simp⟩
  have hL1 : Ra.length ≤ sizeLine := by rw [p1.length_eq, sizeLine_eq]; omega
  have hdep : ∀ b, b ∈ Ra → A.in1.units + 1 + (enc2 b).depth < cLine := fun b _ => by
    have e : (enc2 b).depth = 1 := rfl
    rw [e]
    show A.units + 1 + 1 + 1 < cLine
    omega
  refine wpAny_bind (wpAny_holding (list_sort_data (s := { sm with heap := sm.heap.push (seqObj "list" vls.toArray 0) }) (R := fun (v : Value) (q : Addr × List Int) => v = .ref q.1 ∧ q ∈ Rs) (bs := Ra) (enc := enc2) hob rowsR er (AllAlike.of fun b b' => rfl) (Sortable.tuples fun b => ⟨_, _, rfl⟩) hL1 hdep fun res o1' o2' => ?_))
  · obtain ⟨c, hc⟩ := sortedHeap_at (vs := vls) (out := res.toArray) hob
    rw [dataLe_2] at o2'
    have pc := List.mergeSort_perm Ra le2
    have sc : (Ra.mergeSort le2).Pairwise (fun q r => le2 q r = true) := List.pairwise_mergeSort (fun a b c => by simp only [le2, decide_eq_true_eq]; omega) (fun a b => by simp only [le2, Bool.or_eq_true, decide_eq_true_eq]; omega) Ra
    generalize Ra.mergeSort le2 = Rb at o2' pc sc
    have eo : res = Rb.map fun q => Value.ref q.1 := by
      clear pc sc hc o1'
      induction o2' with
      | nil => rfl
      | cons h t ih => rw [List.map_cons, ← ih, h.1]
    refine wpAny_pure ⟨_, rfl, hQ _ sm.heap.objs.size res.toArray c Rb (fun b u e => ?_) g1 o1 hz hc eo (pc.trans p1) sc⟩
    have q := keep1 b u e
    have hlt := Heap.lt_size q
    show (sortedHeap (sm.heap.push (seqObj "list" vls.toArray 0)) sm.heap.objs.size vls res.toArray).get? b = some u
    rw [sortedHeap_old (Nat.ne_of_lt hlt) (by rw [size_push']; exact Nat.lt_succ_of_lt hlt)]
    exact Heap.get?_push_of_some _ q
end
section
variable {X : Cx}
def rSortSet2 (K : PySem.W.Frag) (P : Program) (w : World) : List V → Hp → VK → Prop := fun vls H Q => ∃ (a : Addr) (Rs : List (Addr × List Int)), vls = [V.ref a] ∧ H a = some (SetTO P w a Rs) ∧ (∀ p ∈ Rs, SqT K H p.1 (p.2.map V.int)) ∧ (∀ p ∈ Rs, p.2.length = 2) ∧
  ∀ (Rb : List (Addr × List Int)) (p : Addr), Rb.Perm Rs → (Rb.map (·.2)).Nodup → Rb.Pairwise (fun q r => le2 q r = true) → H p = none → Q (.ref p) (upd H p (.lst (Rb.map fun q => V.ref q.1)))
theorem cr_sortSet2 (hc : X.calm = true) (hu : X.A.units + 65 < cLine) : CallR X (.builtin "sorted") (rSortSet2 X.K X.prog X.w) := by
  intro pins s σ H vls uls Q I r h
  obtain ⟨a, Rs, rfl, ha, hk, hB, q⟩ := h
  have R0 : SetT0 X.prog X.w s.heap a Rs := (I.hok a _ ha).1
  obtain ⟨ens, ep, t, R⟩ := R0.full fun p hp => I.isT (hk p hp)
  rw [Vals.ref1 r]
  refine sorted_set2 R (I.ok.hd hc) (by omega) hB fun sn p res c Rb k g o hp hg hout prm pw => ?_
  have few : Rb.length < 64 := by rw [prm.length_eq]; exact R.few
  have hlen : (Rb.map fun q => V.ref q.1).length ≤ sizeLine := by rw [List.length_map, sizeLine_eq]; omega
  have hnew : H p = none := I.hok.fresh hp
  have hv : Vals (Rb.map fun q => V.ref q.1) res.toList := by rw [hout]; exact vals_of_refs Rb
  have Jn : Inv X pins σ (upd H p (.lst (Rb.map fun q => V.ref q.1))) { s with heap := sn.heap, gens := sn.gens, drawn := sn.drawn, toks := sn.toks } :=
    I.call (ch := []) (Un.laid k hp hnew) (I.hok.laid k hp ⟨hlen, res.toList, c, hv, hg⟩) (by rw [g]; exact I.bare) (fun _ z => nomatch z)
  have e : sn = { s with heap := sn.heap, gens := sn.gens, drawn := sn.drawn, toks := sn.toks } := by
    cases sn
    cases s
    cases o
    rfl
  rw [e]
  exact ⟨.ref p, _, Jn, rfl, q Rb p prm ((prm.map (·.2)).nodup_iff.mpr R.nd) pw hnew⟩
/-- sorted(set(xs)), xs a list of fewer than 64 pairs -/
def toP (p : Addr × List Int) : D := .tup [.int (p.2.getD 0 0), .int (p.2.getD 1 0)]
theorem set_rows {K : Kw} {W : Wd} {H : Hp} : ∀ {ds : List D} {xs : List V}, DRs K W H ds xs → pairs ds = true → ∃ ks : List (Addr × List Int), xs = ks.map (fun p => V.ref p.1) ∧ ds = ks.map toP ∧ (∀ p ∈ ks, p.2.length = 2 ∧ SqT K.k H p.1 (p.2.map V.int) ∧ DR K W H (toP p) (.ref p.1))
  | [], xs, r, _ => ⟨[], by simpa [DRs] using r, rfl, fun _ m => nomatch m⟩
  | d :: ds, xs, r, h => by
    simp only [DRs] at r
    obtain ⟨v, us, rfl, r1, r2⟩ := r
    obtain ⟨ks, e1, e2, a⟩ := set_rows r2 (by unfold pairs at h ⊢; rw [List.all_cons, Bool.and_eq_true] at h; exact h.2)
    have hd := pairs_mem h List.mem_cons_self
    generalize pair0 d = z at hd
    subst hd
    have r1' := r1
    simp only [DR] at r1
    obtain ⟨t, ys, rfl, ht, rs⟩ := r1
    simp only [DRs, DR] at rs
    obtain ⟨v1, l1, rfl, rfl, v2, l2, rfl, rfl, rfl⟩ := rs
    refine ⟨(t, [z.1, z.2]) :: ks, by rw [e1]; rfl, by rw [e2]; rfl, fun p m => ?_⟩
    rcases List.mem_cons.mp m with e | m
    · rw [e]; exact ⟨rfl, ht.sqt, r1'⟩
    · exact a p m
theorem toP_inj {p q : Addr × List Int} (h1 : p.2.length = 2) (h2 : q.2.length = 2) (e : toP p = toP q) : p.2 = q.2 := by
  unfold toP at e
  injection e with e
  injection e with a b
  injection a with a
  injection b with b
  injection b with b
  rw [len2 h1, len2 h2, a, b]
theorem rows_sorted {ds : List D} {ks L : List (Addr × List Int)} (hd : ds = ks.map toP) (hp : pairs ds = true) (h2 : ∀ p ∈ ks, p.2.length = 2) (hs : ∀ p ∈ L, p ∈ ks) (ha : ∀ p ∈ ks, p.2 ∈ L.map (·.2)) {L' : List (Addr × List Int)} (pm : L'.Perm L) (nd : (L'.map (·.2)).Nodup) (so : L'.Pairwise (fun q r => le2 q r = true)) :
    L'.map toP = sortP (dedupD ds) := by
  have hs' : ∀ p ∈ L', p ∈ ks := fun p m => hs p (pm.mem_iff.mp m)
  refine sortP_uniq (pairs_dedup hp) ?_ ?_
  · refine (List.perm_ext_iff_of_nodup ?_ (nodup_dedupD ds)).mpr fun d => ?_
    · refine List.pairwise_map.mpr (List.Pairwise.imp_of_mem (fun {p q} hp hq hne e => hne (toP_inj (h2 p (hs' p hp)) (h2 q (hs' q hq)) e)) (List.pairwise_map.mp nd))
    · rw [mem_dedupD, hd, List.mem_map, List.mem_map]
      constructor
      · rintro ⟨p, m, e⟩
        exact ⟨p, hs' p m, e⟩
      · rintro ⟨p, m, e⟩
        obtain ⟨q, hq, e2⟩ := List.mem_map.mp (ha p m)
        exact ⟨q, pm.mem_iff.mpr hq, by rw [← e]; unfold toP; rw [e2]⟩
  · refine List.pairwise_map.mpr (so.imp fun {p q} h => ?_)
    unfold leP
    exact h
end
end DL

set_option maxRecDepth 100000
namespace DL
open PySem PySem.Spec PyProof.Rows L2

def Post (K : Kw) (W : Wd) (H : Hp) (M' : Mm) (d : D) (Q : VK) : Prop := ∀ W' H' v, Ext W H W' H' → WR K W' M' H' → DR K W' H' d v → Q v H'
def PostB (K : Kw) (W : Wd) (H : Hp) (M' : Mm) (b : Bool) (Q : Bool → Hp → Prop) : Prop := ∀ W' H', Ext W H W' H' → WR K W' M' H' → Q b H'
def PostA (K : Kw) (W : Wd) (H : Hp) (M' : Mm) (ds : List D) (Q : List V → Hp → Prop) : Prop := ∀ W' H' vs, Ext W H W' H' → WR K W' M' H' → DRs K W' H' ds vs → Q vs H'
section
variable {K : Kw} {W W1 : Wd} {H H1 : Hp} {M M' : Mm} {d d1 d2 : D} {ds : List D} {Q : VK} {v x y : V} {xs : List V}
theorem Post.ext (x : Ext W H W1 H1) (h : Post K W H M' d Q) : Post K W1 H1 M' d Q := fun W' H' v e => h W' H' v (x.trans e)
theorem PostA.ext {Q : List V → Hp → Prop} (x : Ext W H W1 H1) (h : PostA K W H M' ds Q) : PostA K W1 H1 M' ds Q := fun W' H' v e => h W' H' v (x.trans e)
theorem PostB.ext {b : Bool} {Q : Bool → Hp → Prop} (x : Ext W H W1 H1) (h : PostB K W H M' b Q) : PostB K W1 H1 M' b Q := fun W' H' e => h W' H' (x.trans e)
theorem Post.now (h : Post K W H M d Q) (w : WR K W M H) (r : DR K W H d v) : Q v H := h W H v w.refl w r
theorem PostB.now {b : Bool} {Q : Bool → Hp → Prop} (h : PostB K W H M b Q) (w : WR K W M H) : Q b H := h W H w.refl w

theorem DR.int {i : Int} (h : DR K W H (.int i) v) : v = .int i := by simpa only [DR] using h
theorem DR.bl {b : Bool} (h : DR K W H (.bl b) v) : v = .bl b := by simpa only [DR] using h
theorem DR.non (h : DR K W H .non v) : v = .non := by simpa only [DR] using h
theorem DR.str {x : Str} (h : DR K W H (.str x) v) : v = .str x := by simpa only [DR] using h
theorem DR.tup (h : DR K W H (.tup ds) v) : ∃ a xs, v = .ref a ∧ TupAt K H a xs ∧ DRs K W H ds xs := by simpa only [DR] using h
theorem DR.lst (h : DR K W H (.lst ds) v) : ∃ a xs, v = .ref a ∧ LstAt H a xs ∧ a ∉ W.ids ∧ a ∉ W.hid ∧ DRs K W H ds xs := by simpa only [DR] using h
theorem DR.fz (h : DR K W H (.fz ds) v) : ∃ a xs, v = .ref a ∧ FzAt K H a xs ∧ DRs K W H ds xs := by simpa only [DR] using h
theorem DR.ref {n : Nat} (h : DR K W H (.ref n) v) : ∃ a, v = .ref a ∧ W.ids[n]? = some a := by simpa only [DR] using h
theorem dr_int (i : Int) : DR K W H (.int i) (.int i) := by simp only [DR]
theorem dr_bl (i : Bool) : DR K W H (.bl i) (.bl i) := by simp only [DR]
theorem dr_non : DR K W H .non .non := by simp only [DR]
theorem dr_str (x : Str) : DR K W H (.str x) (.str x) := by simp only [DR]
theorem dr_tup {a : Addr} (h : TupAt K H a xs) (r : DRs K W H ds xs) : DR K W H (.tup ds) (.ref a) := by simp only [DR]; exact ⟨a, xs, rfl, h, r⟩
theorem dr_ref {a : Addr} {n : Nat} (h : W.ids[n]? = some a) : DR K W H (.ref n) (.ref a) := by simp only [DR]; exact ⟨a, rfl, h⟩

theorem lim_eq : lim = sizeLine := by rw [sizeLine_eq]; rfl
theorem newTup (w : WR K W M H) (r : DRs K W H ds xs) (q : Post K W H M (.tup ds) Q) (p : Addr) (h : H p = none) : Q (.ref p) (upd H p (.tup xs)) :=
  q W _ _ (ext_new w h) (w.new h) (dr_tup (.inl upd_same) (r.mono w (ext_new w h)))
theorem dr_newL {p : Addr} (w : WR K W M H) (r : DRs K W H ds xs) (h : H p = none) : DR K W (upd H p (.lst xs)) (.lst ds) (.ref p) := by
  simp only [DR]
  refine ⟨p, xs, rfl, upd_same, fun m => ?_, fun m => ?_, r.mono w (ext_new w h)⟩
  · obtain ⟨o, e⟩ := w.mem m
    rw [h] at e; cases e
  · obtain ⟨o, e⟩ := w.hs p m
    rw [h] at e; cases e
theorem newL_ok {m : Bool} (w : WR K W M H) (r : DRs K W H ds xs) (e : newL m ds M = some (d, M')) (q : Post K W H M' d Q) (p : Addr) (h : H p = none) : Q (.ref p) (upd H p (.lst xs)) := by
  unfold newL at e
  split at e
  · cases m with
    | true =>
      simp only [if_true] at e
      cases e
      obtain ⟨w', x⟩ := w.push h r
      exact q _ _ _ x w' (dr_ref (by simp [w.len]))
    | false =>
      simp only [Bool.false_eq_true, if_false] at e
      cases e
      exact q _ _ _ (ext_new w h) (w.new h) (dr_newL w r h)
  · cases e
theorem newL_len {m : Bool} (e : newL m ds M = some (d, M')) : ds.length ≤ sizeLine := by
  unfold newL at e
  split at e
  · rw [← lim_eq]; assumption
  · cases e

/-- lists -/
theorem lstOf_ok (w : WR K W M H) (r : DR K W H d v) (e : lstOf M d = some ds) : ∃ a xs, v = .ref a ∧ H a = some (.lst xs) ∧ DRs K W H ds xs := by
  cases d with
  | lst es =>
    cases e
    obtain ⟨a, xs, h1, h2, _, _, h3⟩ := r.lst
    exact ⟨a, xs, h1, h2, h3⟩
  | ref n =>
    obtain ⟨a, h1, h2⟩ := r.ref
    simp only [lstOf] at e
    split at e
    · rename_i es he
      cases e
      obtain ⟨xs, h3, h4⟩ := w.at_ n a _ h2 he
      exact ⟨a, xs, h1, h3, h4⟩
    · cases e
  | _ => simp [lstOf] at e
theorem seqOf_ok (w : WR K W M H) (r : DR K W H d v) (e : seqOf M d = some ds) : ∃ a xs, v = .ref a ∧ (SqL K.k H a xs ∨ SqT K.k H a xs) ∧ DRs K W H ds xs := by
  cases d with
  | lst es =>
    cases e
    obtain ⟨a, xs, h1, h2, _, _, h3⟩ := r.lst
    exact ⟨a, xs, h1, .inl h2.sql, h3⟩
  | fz es =>
    cases e
    obtain ⟨a, xs, h1, h2, h3⟩ := r.fz
    exact ⟨a, xs, h1, .inl h2.sql, h3⟩
  | tup es =>
    cases e
    obtain ⟨a, xs, h1, h2, h3⟩ := r.tup
    exact ⟨a, xs, h1, .inr h2.sqt, h3⟩
  | ref n =>
    obtain ⟨a, h1, h2⟩ := r.ref
    simp only [seqOf] at e
    split at e
    · rename_i es he
      cases e
      obtain ⟨xs, h3, h4⟩ := w.at_ n a _ h2 he
      exact ⟨a, xs, h1, .inl (.of h3), h4⟩
    · cases e
  | _ => simp [seqOf] at e
theorem intOf_ok (r : DR K W H d v) {i : Int} (e : intOf d = some i) : v = .int i := by
  cases d with
  | int j => cases e; exact r.int
  | _ => simp [intOf] at e

/-! ### data -/
theorem canLay_any {p : PyData} (h : p.canLay0 = true) (k : p.depth ≤ 64) : SeqAt.shaped p = true := by
  show (p.canLay0 && decide (p.depth ≤ 64)) = true
  rw [h, decide_eq_true k]; rfl
theorem mapM_py {k : Nat} (f : D → Option PyData) (P : V → D → Prop) (hf : ∀ d p v, f d = some p → P v d → Dp K.k H v p ∧ p.canLay0 = true ∧ p.depth ≤ k) :
    ∀ (ds : List D) (ps : List PyData) (xs : List V), ds.mapM f = some ps → ds.length = xs.length → (∀ (i : Nat) (d : D) (v : V), ds[i]? = some d → xs[i]? = some v → P v d) → DpAll K.k H xs ps ∧ PyData.canLayAll0 ps = true ∧ PyData.depthAll ps ≤ k
  | [], ps, xs, e, l, g => by
    simp at e; subst e
    cases xs with
    | nil => exact ⟨.nil, by simp [PyData.canLayAll0], by simp [PyData.depthAll]⟩
    | cons _ _ => simp at l
  | d :: ds, ps, xs, e, l, g => by
    cases xs with
    | nil => simp at l
    | cons x xs =>
      rw [List.mapM_cons] at e
      cases e1 : f d with
      | none => rw [e1] at e; simp at e
      | some p =>
        cases e2 : ds.mapM f with
        | none => rw [e1, e2] at e; simp at e
        | some qs =>
          rw [e1, e2] at e
          simp at e
          subst e
          obtain ⟨a1, a2, a3⟩ := hf d p x e1 (g 0 d x rfl rfl)
          obtain ⟨b1, b2, b3⟩ := mapM_py f P hf ds qs xs e2 (by simpa using l) fun i d v h1 h2 => g (i + 1) d v (by simpa using h1) (by simpa using h2)
          refine ⟨.cons a1 b1, by simp [PyData.canLayAll0, a2, b2], ?_⟩
          simp only [PyData.depthAll]
          omega
theorem toPy_ok (w : WR K W M H) : ∀ (k : Nat) (d : D) (p : PyData) (v : V), toPy k M d = some p → DR K W H d v → Dp K.k H v p ∧ p.canLay0 = true ∧ p.depth ≤ k
  | 0, _, _, _, e, _ => by simp [toPy] at e
  | k + 1, d, p, v, e, r => by
    have ih := toPy_ok w k
    have all : ∀ (ds : List D) (ps : List PyData) (xs : List V), ds.mapM (toPy k M) = some ps → DRs K W H ds xs → DpAll K.k H xs ps ∧ PyData.canLayAll0 ps = true ∧ PyData.depthAll ps ≤ k := fun ds ps xs e r =>
      mapM_py (toPy k M) (fun v d => DR K W H d v) (fun d p v e q => ih d p v e q) ds ps xs e r.length fun i d v h1 h2 => by
        obtain ⟨u, h3, h4⟩ := r.get h1
        rw [h2] at h3; cases h3
        exact h4
    simp only [toPy] at e
    cases d with
    | non => cases e; rw [r.non]; exact ⟨.non, rfl, by simp [PyData.depth]⟩
    | bl b => cases e; rw [r.bl]; exact ⟨.bl b, rfl, by simp [PyData.depth]⟩
    | int i => cases e; rw [r.int]; exact ⟨.int i, rfl, by simp [PyData.depth]⟩
    | str x =>
      simp only at e
      split at e
      · cases e; rw [r.str]; rename_i hs; exact ⟨.str x, by simpa [PyData.canLay0] using hs, by simp [PyData.depth]⟩
      · cases e
    | tup ds =>
      simp only [Option.map_eq_some_iff] at e
      obtain ⟨ps, e, rfl⟩ := e
      obtain ⟨a, xs, rfl, h2, h3⟩ := r.tup
      obtain ⟨c1, c2, c3⟩ := all ds ps xs e h3
      exact ⟨.tup h2.sqt c1, by simpa [PyData.canLay0] using c2, by simp [PyData.depth]; omega⟩
    | lst ds =>
      simp only [Option.map_eq_some_iff] at e
      obtain ⟨ps, e, rfl⟩ := e
      obtain ⟨a, xs, rfl, h2, _, _, h3⟩ := r.lst
      obtain ⟨c1, c2, c3⟩ := all ds ps xs e h3
      exact ⟨.lst h2.sql c1, by simpa [PyData.canLay0] using c2, by simp [PyData.depth]; omega⟩
    | fz ds => simp at e
    | dic ks vs => simp at e
    | ref n =>
      simp only at e
      split at e
      · rename_i ds hd
        simp only [Option.map_eq_some_iff] at e
        obtain ⟨ps, e, rfl⟩ := e
        obtain ⟨a, rfl, h2⟩ := r.ref
        obtain ⟨xs, h3, h4⟩ := w.at_ n a _ h2 hd
        obtain ⟨c1, c2, c3⟩ := all ds ps xs e h4
        exact ⟨.lst (.of h3) c1, by simpa [PyData.canLay0] using c2, by simp [PyData.depth]; omega⟩
      · cases e
theorem toPy60 (w : WR K W M H) {p : PyData} (e : toPy 60 M d = some p) (r : DR K W H d v) : Dp K.k H v p ∧ SeqAt.shaped p = true :=
  let ⟨a, b, c⟩ := toPy_ok w 60 d p v e r
  ⟨a, canLay_any b (by omega)⟩
end
end DL

set_option maxRecDepth 100000
namespace DL
open PySem PySem.Spec PyProof.Rows L2
def opPy : Op → Operator
  | .add => .Add | .sub => .Sub | .mul => .Mult | .fdiv => .FloorDiv | .mod => .Mod | .pow => .Pow | .shl => .LShift | .shr => .RShift | .band => .BitAnd | .bor => .BitOr
def cmPy : Cm → CmpOp
  | .eq => .Eq | .ne => .NotEq | .lt => .Lt | .le => .LtE | .gt => .Gt | .ge => .GtE | .isin => .In | .notin => .NotIn | .is => .Is | .isnot => .IsNot
def rNo : R2 := fun _ _ _ _ => False
def opR (K : PySem.W.Frag) : Op → R2
  | .add => fun x y H Q => (rI0 (fun i j => .int (i + j)) x y H Q ∨ rCatT K x y H Q) ∨ rCat x y H Q
  | .sub => rI0 fun i j => .int (i - j)
  | .mul => fun x y H Q => rI CMulW (fun i j => .int (i * j)) x y H Q ∨ rRep x y H Q
  | .fdiv => rI CDivW fun i j => .int (i / j)
  | .mod => rI (fun _ j => 0 < j) fun i j => .int (i % j)
  | .pow => rI CPow fun i j => .int (i ^ j.toNat)
  | .shl => rI CPow fun i j => .int (i * 2 ^ j.toNat)
  | .shr => rI (fun _ j => 0 ≤ j) fun i j => .int (i / 2 ^ j.toNat)
  | .band => rI0 fun i j => .int (Builtin.bitAnd i j)
  | .bor => rI0 fun i j => .int (Builtin.bitOr i j)
section
variable {X : Cx}
theorem opR_ok (o : Op) : OpR X (binaryOp (opPy o)) (opR X.K o) := by
  cases o with
  | add => exact (op_add.or op_catT).or op_cat
  | sub => exact op_sub
  | mul => exact op_mulW.or op_rep
  | fdiv => exact op_fdivW
  | mod => exact op_mod
  | pow => exact op_pow
  | shl => exact op_shl
  | shr => exact op_shr
  | band => exact op_and
  | bor => exact op_or
def cmR (K : PySem.W.Frag) : Cm → R2
  | .eq => rEqD K
  | .ne => rNeD K
  | .lt => rI0 fun i j => .bl (decide (i < j))
  | .le => rI0 fun i j => .bl (decide (i ≤ j))
  | .gt => rI0 fun i j => .bl (decide (j < i))
  | .ge => rI0 fun i j => .bl (decide (j ≤ i))
  | .isin => rInD K
  | .notin => rNotInD K
  | .is => fun x y H Q => (y = .non ∧ Q (.bl (decide (x = .non))) H) ∨ rIsB x y H Q
  | .isnot => fun x y H Q => (y = .non ∧ Q (.bl (!decide (x = .non))) H) ∨ rNotB x y H Q
theorem cmR_ok (hu : X.A.units + 65 < cLine) (o : Cm) : OpR X (compareOp (cmPy o)) (cmR X.K o) := by
  cases o with
  | eq => exact op_eqD (by omega)
  | ne => exact op_neD (by omega)
  | lt => exact op_lt
  | le => exact op_le
  | gt => exact op_gt
  | ge => exact op_ge
  | isin => exact op_inD hu
  | notin => exact op_notInD hu
  | is => exact op_isN.or op_isBl
  | isnot => exact op_notN.or op_notBl
end

section
variable {K : Kw} {W W1 : Wd} {H H1 : Hp} {M M' : Mm} {d d1 d2 : D} {ds : List D} {Q : VK} {v x y : V} {xs : List V}
theorem log64 {i : Int} (h : i.natAbs.log2 + 0 < 1000000) : True := trivial
theorem DRs.flat (r : DRs K W H ds xs) : ∀ n, DRs K W H (List.replicate n ds).flatten (List.replicate n xs).flatten
  | 0 => by simp [DRs]
  | n + 1 => by
    rw [List.replicate_succ, List.replicate_succ, List.flatten_cons, List.flatten_cons]
    exact r.app (DRs.flat r n)
theorem DRs.ne_nil (r : DRs K W H ds xs) (h : ds ≠ []) : xs ≠ [] := by
  intro z; subst z
  have := r.length
  cases ds with
  | nil => exact h rfl
  | cons _ _ => simp at this
theorem DRs.isEmpty (r : DRs K W H ds xs) : ds.isEmpty = xs.isEmpty := by
  have := r.length
  cases ds <;> cases xs <;> simp at this ⊢

theorem lstOf_post {m : Bool} {a b : D} {as bs : List D} (w : WR K W M H) (ra : DR K W H a x) (rb : DR K W H b y) (ea : lstOf M a = some as) (eb : lstOf M b = some bs)
    (e : newL m (as ++ bs) M = some (d, M')) (q : Post K W H M' d Q) : rCat x y H Q := by
  obtain ⟨l, xs, rfl, h1, r1⟩ := lstOf_ok w ra ea
  obtain ⟨l2, ys, rfl, h2, r2⟩ := lstOf_ok w rb eb
  have r3 := r1.app r2
  refine ⟨l, l2, xs, ys, rfl, rfl, h1, h2, ?_, fun p hp => newL_ok w r3 e q p hp⟩
  have := newL_len e
  rw [r3.length, List.length_append] at this
  exact this

theorem semO_ok {m : Bool} {o : Op} {a b : D} (w : WR K W M H) (ra : DR K W H a x) (rb : DR K W H b y) (e : semO m M o a b = some (d, M')) (q : Post K W H M' d Q) : opR K.k o x y H Q := by
  have cat : ∀ {as bs : List D}, lstOf M a = some as → lstOf M b = some bs → newL m (as ++ bs) M = some (d, M') → opR K.k .add x y H Q := fun ea eb e => .inr (lstOf_post w ra rb ea eb e q)
  have go : ∀ {g : Int} {c : Bool}, iff' c (.int g) M = some (d, M') → c = true ∧ Q (.int g) H := fun {g c} e => by
    unfold iff' at e
    split at e
    · cases e; exact ⟨by assumption, q.now w (dr_int _)⟩
    · cases e
  unfold semO at e
  split at e
  · cases e; rw [ra.int, rb.int]; exact .inl (.inl ⟨_, _, rfl, rfl, q.now w (dr_int _)⟩)
  · split at e
    · rename_i hc
      cases e
      obtain ⟨l, xs, rfl, h1, r1⟩ := ra.tup
      obtain ⟨l2, ys, rfl, h2, r2⟩ := rb.tup
      refine .inl (.inr ⟨l, l2, xs, ys, rfl, rfl, h1.sqt, h2.sqt, r1.ne_nil hc.1, by rw [← r1.length, ← r2.length, ← lim_eq]; exact hc.2, fun hy => ?_, fun hy p hp => ?_⟩)
      · subst hy
        refine q.now w ?_
        have hl := r2.length
        have : ‹List D› = [] ∨ True := .inr trivial
        simp only [DR]
        refine ⟨l, xs, rfl, h1, ?_⟩
        have := r1.app r2
        simpa using this
      · exact newTup w (r1.app r2) q p hp
    · cases e
  · simp only [Option.bind_eq_bind, Option.bind_eq_some_iff] at e
    obtain ⟨as, ea, bs, eb, e⟩ := e
    exact cat ea eb e
  · cases e; rw [ra.int, rb.int]; exact ⟨_, _, rfl, rfl, q.now w (dr_int _)⟩
  · obtain ⟨c, q'⟩ := go e
    rw [ra.int, rb.int]
    simp only [mulB, decide_eq_true_eq] at c
    exact .inl ⟨_, _, rfl, rfl, c, q'⟩
  · simp only [Option.bind_eq_bind, Option.bind_eq_some_iff] at e
    obtain ⟨as, ea, e⟩ := e
    split at e
    · rename_i hc
      obtain ⟨l, xs, rfl, h1, r1⟩ := lstOf_ok w ra ea
      rw [rb.int]
      exact .inr ⟨l, _, xs, rfl, rfl, h1, hc.1, hc.2.1, by rw [← r1.length, ← lim_eq]; exact hc.2.2, fun p hp => newL_ok w (r1.flat _) e q p hp⟩
    · cases e
  · obtain ⟨c, q'⟩ := go e
    rw [ra.int, rb.int]
    simp only [divB, Bool.and_eq_true, decide_eq_true_eq] at c
    exact ⟨_, _, rfl, rfl, c, q'⟩
  · obtain ⟨c, q'⟩ := go e
    rw [ra.int, rb.int]; exact ⟨_, _, rfl, rfl, of_decide_eq_true c, q'⟩
  · obtain ⟨c, q'⟩ := go e
    rw [ra.int, rb.int]
    simp only [CPowB, Bool.and_eq_true, decide_eq_true_eq] at c
    exact ⟨_, _, rfl, rfl, ⟨c.1.1, c.1.2, c.2⟩, q'⟩
  · obtain ⟨c, q'⟩ := go e
    rw [ra.int, rb.int]
    simp only [CPowB, Bool.and_eq_true, decide_eq_true_eq] at c
    exact ⟨_, _, rfl, rfl, ⟨c.1.1, c.1.2, c.2⟩, q'⟩
  · obtain ⟨c, q'⟩ := go e
    rw [ra.int, rb.int]; exact ⟨_, _, rfl, rfl, of_decide_eq_true c, q'⟩
  · cases e; rw [ra.int, rb.int]; exact ⟨_, _, rfl, rfl, q.now w (dr_int _)⟩
  · cases e; rw [ra.int, rb.int]; exact ⟨_, _, rfl, rfl, q.now w (dr_int _)⟩
  · cases e

theorem semC_ok {o : Cm} {a b : D} {r : Bool} (w : WR K W M H) (ra : DR K W H a x) (rb : DR K W H b y) (e : semC M o a b = some r) (q : Q (.bl r) H) : cmR K.k o x y H Q := by
  have py : ∀ {r : Bool}, eqD M a b = some r → ∃ p u, Dp K.k H x p ∧ Dp K.k H y u ∧ SeqAt.shaped p = true ∧ SeqAt.shaped u = true ∧ PyData.eqv p u = r := fun {r} e => by
    simp only [eqD, Option.bind_eq_bind, Option.bind_eq_some_iff] at e
    obtain ⟨p, e1, u, e2, e3⟩ := e
    obtain ⟨a1, a2⟩ := toPy60 w e1 ra
    obtain ⟨b1, b2⟩ := toPy60 w e2 rb
    exact ⟨p, u, a1, b1, a2, b2, Option.some.inj e3⟩
  have pin : ∀ {r : Bool}, inD M a b = some r → ∃ p us, Dp K.k H x p ∧ Dp K.k H y (.list us) ∧ SeqAt.shaped p = true ∧ SeqAt.shaped (.list us) = true ∧ (us.any fun z => PyData.eqv z p) = r := fun {r} e => by
    simp only [inD, Option.bind_eq_bind, Option.bind_eq_some_iff] at e
    obtain ⟨p, e1, u, e2, e3⟩ := e
    split at e3
    · obtain ⟨a1, a2⟩ := toPy60 w e1 ra
      obtain ⟨b1, b2⟩ := toPy60 w e2 rb
      exact ⟨p, _, a1, b1, a2, b2, Option.some.inj e3⟩
    · cases e3
  have ci : ∀ {f : Int → Int → Bool}, cmI f a b = some r → rI0 (fun i j => .bl (f i j)) x y H Q := fun {f} e => by
    unfold cmI at e
    split at e
    · cases e; rw [ra.int, rb.int]; exact ⟨_, _, rfl, rfl, q⟩
    · cases e
  have isn : ∀ {r : Bool}, isD a b = some r → (y = .non ∧ decide (x = .non) = r) ∨ ∃ a b : Bool, x = .bl a ∧ y = .bl b ∧ decide (a = b) = r := fun {r} e => by
    unfold isD at e
    split at e
    · cases e
      refine .inl ⟨rb.non, ?_⟩
      have hd : x = .non ↔ a = .non := by
        refine ⟨fun h => ?_, fun h => ?_⟩
        · subst h
          cases a with
          | non => rfl
          | bl _ => exact absurd ra.bl (by simp)
          | int _ => exact absurd ra.int (by simp)
          | str _ => exact absurd ra.str (by simp)
          | tup _ => obtain ⟨_, _, z, _⟩ := ra.tup; cases z
          | lst _ => obtain ⟨_, _, z, _⟩ := ra.lst; cases z
          | fz _ => obtain ⟨_, _, z, _⟩ := ra.fz; cases z
          | dic _ _ => simp [DR] at ra
          | ref _ => obtain ⟨_, z, _⟩ := ra.ref; cases z
        · subst h; exact ra.non
      exact decide_eq_decide.mpr hd
    · cases e; exact .inr ⟨_, _, ra.bl, rb.bl, rfl⟩
    · cases e
  cases o with
  | eq =>
    obtain ⟨p, u, h1, h2, h3, h4, h5⟩ := py e
    exact ⟨p, u, h1, h2, h3, h4, by rw [h5]; exact q⟩
  | ne =>
    simp only [semC, Option.map_eq_some_iff] at e
    obtain ⟨r', e, rfl⟩ := e
    obtain ⟨p, u, h1, h2, h3, h4, h5⟩ := py e
    exact ⟨p, u, h1, h2, h3, h4, by rw [h5]; exact q⟩
  | lt => exact ci e
  | le => exact ci e
  | gt => exact ci e
  | ge => exact ci e
  | isin =>
    obtain ⟨p, u, h1, h2, h3, h4, h5⟩ := pin e
    exact ⟨p, u, h1, h2, h3, h4, by rw [h5]; exact q⟩
  | notin =>
    simp only [semC, Option.map_eq_some_iff] at e
    obtain ⟨r', e, rfl⟩ := e
    obtain ⟨p, u, h1, h2, h3, h4, h5⟩ := pin e
    exact ⟨p, u, h1, h2, h3, h4, by rw [h5]; exact q⟩
  | is =>
    rcases isn e with ⟨h1, h2⟩ | ⟨a', b', h1, h2, h3⟩
    · exact .inl ⟨h1, by rw [h2]; exact q⟩
    · exact .inr ⟨a', b', h1, h2, by rw [h3]; exact q⟩
  | isnot =>
    simp only [semC, Option.map_eq_some_iff] at e
    obtain ⟨r', e, rfl⟩ := e
    rcases isn e with ⟨h1, h2⟩ | ⟨a', b', h1, h2, h3⟩
    · exact .inl ⟨h1, by rw [h2]; exact q⟩
    · exact .inr ⟨a', b', h1, h2, by rw [h3]; exact q⟩

theorem truth_ok {b : Bool} (w : WR K W M H) (r : DR K W H d v) (e : truth M d = some b) : TruV K.k v H b := by
  cases d with
  | non => cases e; rw [r.non]; rfl
  | bl c => cases e; rw [r.bl]; rfl
  | int i => cases e; rw [r.int]; rfl
  | tup es =>
    cases e
    obtain ⟨a, xs, rfl, h1, h2⟩ := r.tup
    exact .inr (.inl ⟨xs, h1.sqt, by rw [h2.isEmpty]⟩)
  | lst es =>
    cases e
    obtain ⟨a, xs, rfl, h1, _, _, h2⟩ := r.lst
    exact .inl ⟨xs, h1.sql, by rw [h2.isEmpty]⟩
  | ref n =>
    simp only [truth] at e
    split at e
    · rename_i es he
      cases e
      obtain ⟨a, rfl, h1⟩ := r.ref
      obtain ⟨xs, h3, h4⟩ := w.at_ n a _ h1 he
      exact .inl ⟨xs, .of h3, by rw [h4.isEmpty]⟩
    · cases e
  | _ => simp [truth] at e

/-! ### subscripts -/
theorem DRs.atI (r : DRs K W H ds xs) {i : Int} (e : atI ds i = some d) : ∃ v, L2.atI xs i = some v ∧ DR K W H d v := by
  unfold L2.atI at e ⊢
  rw [← r.length]
  cases q : ixN ds.length i with
  | none => rw [q] at e; cases e
  | some j =>
    rw [q] at e
    exact r.get e
def ixR (K : Kw) : R2 := fun x y H Q => (rIxL K.k x y H Q ∨ rIxT K.k x y H Q) ∨ rIxN K x y H Q
theorem ixR_ok {X : Cx} (hu : X.A.units + 65 < cLine) : IxR X (ixR (kwOf X)) := (ix_list.or ix_tup).or (ix_nest hu)
theorem dicOf_ok {a : D} {kvs : List (D × D)} (w : WR K W M H) (ra : DR K W H a x) (e : dicOf M a = some kvs) : ∃ n p, a = .ref n ∧ x = .ref p ∧ W.ids[n]? = some p ∧ M[n]? = some (.dic kvs) ∧ MR K W H p (.dic kvs) := by
  unfold dicOf at e
  split at e
  · rename_i n
    split at e
    · rename_i kvs' h
      cases e
      obtain ⟨p, rfl, h1⟩ := ra.ref
      exact ⟨n, p, rfl, rfl, h1, h, w.at_ n p _ h1 h⟩
    · cases e
  · cases e
theorem semIx_ok {a i : D} (w : WR K W M H) (ra : DR K W H a x) (ri : DR K W H i y) (e : semIx M a i = some d) (q : Post K W H M d Q) : ixR K x y H Q := by
  unfold semIx at e
  split at e
  · rename_i kvs hd
    obtain ⟨n, p, rfl, rfl, _, _, hm⟩ := dicOf_ok w ra hd
    split at e
    · rename_i hk
      exact .inr ⟨W, p, kvs, i, d, rfl, hm, ri, hk, e, fun v r => q.now w r⟩
    · cases e
  · simp only [Option.bind_eq_bind, Option.bind_eq_some_iff] at e
    obtain ⟨es, e1, k, e2, e3⟩ := e
    obtain ⟨l, xs, rfl, h1, r1⟩ := seqOf_ok w ra e1
    obtain ⟨v, e4, r4⟩ := r1.atI e3
    rw [intOf_ok ri e2]
    rcases h1 with h1 | h1
    · exact .inl (.inl ⟨l, xs, k, v, rfl, rfl, h1, e4, q.now w r4⟩)
    · exact .inl (.inr ⟨l, xs, k, v, rfl, rfl, h1, e4, q.now w r4⟩)
theorem DRs.cut (r : DRs K W H ds xs) (lo hi : Option Int) : DRs K W H (cutD ds lo hi) (cutV xs lo hi) := by
  unfold cutD cutV
  rw [r.length]
  exact (r.drop _).take _
def slR (K : PySem.W.Frag) : V → Option Int → Option Int → Hp → VK → Prop := fun x lo hi H Q => rSlL K x lo hi H Q ∨ rSlA K x lo hi H Q
theorem slR_ok {X : Cx} : SlR X (slR X.K) := sl_list.or sl_tupA
theorem semSl_ok {m : Bool} {a : D} {lo hi : List D} {l h : Option Int} (w : WR K W M H) (ra : DR K W H a x) (e : semSl m M a lo hi = some (d, M')) (el : optI lo = some l) (eh : optI hi = some h) (q : Post K W H M' d Q) :
    slR K.k x l h H Q := by
  simp only [semSl, Option.bind_eq_bind, el, eh, Option.bind_some] at e
  split at e
  · obtain ⟨t, xs, rfl, h1, r1⟩ := ra.tup
    refine .inr ⟨t, xs, rfl, h1.sqt, fun hc => ?_, fun hc p hp => ?_⟩
    · rw [← r1.length] at hc
      rw [if_pos hc] at e
      cases e
      exact q.now w (dr_tup h1 r1)
    · rw [← r1.length] at hc
      rw [if_neg hc] at e
      cases e
      exact newTup w (r1.cut l h) q p hp
  · obtain ⟨t, xs, rfl, h1, r1⟩ := ra.fz
    exact .inl ⟨t, xs, rfl, h1.sql, fun p hp => newL_ok w (r1.cut l h) e q p hp⟩
  · simp only [Option.bind_eq_some_iff] at e
    obtain ⟨es, e1, e2⟩ := e
    obtain ⟨t, xs, rfl, h1, r1⟩ := lstOf_ok w ra e1
    exact .inl ⟨t, xs, rfl, .of h1, fun p hp => newL_ok w (r1.cut l h) e2 q p hp⟩
end
end DL

set_option maxRecDepth 100000
namespace DL
open PySem PySem.Spec PyProof.Rows L2
def blR (K : Kw) : Blt → List V → Hp → VK → Prop
  | .len => fun xs H Q => ∃ x n, xs = [x] ∧ LenV K.k x H n ∧ Q (.int n) H
  | .abs => fun xs H Q => ∃ i, xs = [.int i] ∧ Q (.int (if i < 0 then -i else i)) H
  | .int => fun xs H Q => (∃ i, xs = [.int i] ∧ Q (.int i) H) ∨ ∃ k, xs = [.bl k] ∧ Q (.int (if k then 1 else 0)) H
  | .all => rAll K.k
  | .any => rAny K.k
  | .sum => rSum K.k
  | .tuple => fun xs H Q => ∃ p ys, xs = [.ref p] ∧ ((SqL K.k H p ys ∧ ∀ l, H l = none → Q (.ref l) (upd H l (.tup ys))) ∨ (SqT K.k H p ys ∧ Q (.ref p) H))
  | .list => fun xs H Q => (∃ p ys, xs = [.ref p] ∧ (SqL K.k H p ys ∨ SqT K.k H p ys) ∧ ∀ l, H l = none → Q (.ref l) (upd H l (.lst ys))) ∨ rListN K xs H Q
  | .gcd => rGcd
  | .max2 => fun xs H Q => ∃ i j, xs = [.int i, .int j] ∧ Q (.int (if j > i then j else i)) H
  | .min2 => fun xs H Q => ∃ i j, xs = [.int i, .int j] ∧ Q (.int (if j < i then j else i)) H
  | .sortset => fun _ _ _ => False
  | .sorted => rSortP K
def blV : Blt → Value
  | .len => .builtin "len" | .abs => .builtin "abs" | .int => .type "int" | .all => .builtin "all" | .any => .builtin "any" | .sum => .builtin "sum"
  | .tuple => .type "tuple" | .list => .type "list" | .gcd => .builtin "math.gcd" | .max2 => .builtin "max" | .min2 => .builtin "min"
  | .sortset => .builtin "sorted" | .sorted => .builtin "sorted"
theorem blR_ok {X : Cx} (hc : X.calm = true) (hu : X.A.units + 65 < cLine) (b : Blt) : CallR X (blV b) (blR (kwOf X) b) := by
  cases b with
  | len => exact call_len
  | abs => exact call_abs
  | int => exact call_int1
  | all => exact cr_all hc
  | any => exact cr_any hc
  | sum => exact cr_sum hc
  | tuple => exact call_tuple_of
  | list => exact call_list_of.or (call_listN hc)
  | gcd => exact cr_gcd
  | max2 => exact call_max2 hc
  | min2 => exact call_min2 hc
  | sortset => intro _ _ _ _ _ _ _ _ _ h; exact h.elim
  | sorted => exact cr_sortP hu
section
variable {K : Kw} {W W1 : Wd} {H H1 : Hp} {M M' : Mm} {d d1 d2 : D} {ds : List D} {Q : VK} {v x y : V} {xs : List V}
theorem bls_ok : ∀ {ds : List D} {xs : List V} {bs : List Bool}, DRs K W H ds xs → blsOf ds = some bs → xs = bs.map V.bl
  | [], xs, bs, r, e => by simp [blsOf] at e; subst e; simpa [DRs] using r
  | d :: ds, xs, bs, r, e => by
    cases d with
    | bl b =>
      simp only [blsOf, Option.map_eq_some_iff] at e
      obtain ⟨cs, e, rfl⟩ := e
      simp only [DRs] at r
      obtain ⟨v, us, rfl, r1, r2⟩ := r
      rw [r1.bl, bls_ok r2 e]; rfl
    | _ => simp [blsOf] at e
theorem ints_ok : ∀ {ds : List D} {xs : List V} {bs : List Int}, DRs K W H ds xs → intsOf ds = some bs → xs = bs.map V.int
  | [], xs, bs, r, e => by simp [intsOf] at e; subst e; simpa [DRs] using r
  | d :: ds, xs, bs, r, e => by
    cases d with
    | int b =>
      simp only [intsOf, Option.map_eq_some_iff] at e
      obtain ⟨cs, e, rfl⟩ := e
      simp only [DRs] at r
      obtain ⟨v, us, rfl, r1, r2⟩ := r
      rw [r1.int, ints_ok r2 e]; rfl
    | _ => simp [intsOf] at e
theorem DRs.one_inv {d : D} (r : DRs K W H [d] xs) : ∃ x, xs = [x] ∧ DR K W H d x := by
  simp only [DRs] at r
  obtain ⟨v, u, rfl, h, rfl⟩ := r
  exact ⟨v, rfl, h⟩
theorem DRs.two_inv {d e : D} (r : DRs K W H [d, e] xs) : ∃ x y, xs = [x, y] ∧ DR K W H d x ∧ DR K W H e y := by
  simp only [DRs] at r
  obtain ⟨v, u, rfl, h, v2, u2, rfl, h2, rfl⟩ := r
  exact ⟨v, v2, rfl, h, h2⟩
theorem seqK_ok {a : D} (w : WR K W M H) (ra : DR K W H a x) (e : seqK M a = some ds) : (∃ p ys, x = .ref p ∧ (SqL K.k H p ys ∨ SqT K.k H p ys) ∧ DRs K W H ds ys) ∨ ∃ p kvs, x = .ref p ∧ MR K W H p (.dic kvs) ∧ ds = kvs.map (·.1) := by
  cases a with
  | ref n =>
    simp only [seqK] at e
    split at e
    · rename_i es he
      cases e
      obtain ⟨p, rfl, h1⟩ := ra.ref
      obtain ⟨ys, h3, h4⟩ := w.at_ n p _ h1 he
      exact .inl ⟨p, ys, rfl, .inl (.of h3), h4⟩
    · rename_i kvs he
      cases e
      obtain ⟨p, rfl, h1⟩ := ra.ref
      exact .inr ⟨p, kvs, rfl, w.at_ n p _ h1 he, rfl⟩
    · cases e
  | _ => exact .inl (seqOf_ok w ra (by simpa only [seqK] using e))
theorem semB_ok {b : Blt} {m : Bool} (hb : b ≠ .sortset) (w : WR K W M H) (r : DRs K W H ds xs) (e : semB b m ds M = some (d, M')) (q : Post K W H M' d Q) : blR K b xs H Q := by
  unfold semB at e
  split at e
  · obtain ⟨x, rfl, r1⟩ := r.one_inv
    simp only [Option.bind_eq_bind, Option.bind_eq_some_iff] at e
    obtain ⟨es, e1, e⟩ := e
    split at e
    · cases e
      obtain ⟨a, ys, rfl, h1, r2⟩ := seqOf_ok w r1 e1
      refine ⟨_, es.length, rfl, ?_, q.now w (dr_int _)⟩
      rcases h1 with h1 | h1
      · exact .inl ⟨ys, h1, r2.length⟩
      · exact .inr ⟨ys, h1, r2.length⟩
    · cases e
  · obtain ⟨x, rfl, r1⟩ := r.one_inv
    cases e; rw [r1.int]; exact ⟨_, rfl, q.now w (dr_int _)⟩
  · obtain ⟨x, rfl, r1⟩ := r.one_inv
    cases e; rw [r1.int]; exact .inl ⟨_, rfl, q.now w (dr_int _)⟩
  · obtain ⟨x, rfl, r1⟩ := r.one_inv
    cases e; rw [r1.bl]; exact .inr ⟨_, rfl, q.now w (dr_int _)⟩
  · obtain ⟨x, rfl, r1⟩ := r.one_inv
    simp only [Option.bind_eq_bind, Option.bind_eq_some_iff] at e
    obtain ⟨es, e1, bs, e2, e⟩ := e
    cases e
    obtain ⟨a, ys, rfl, h1, r2⟩ := lstOf_ok w r1 e1
    exact ⟨a, bs, rfl, by rw [← bls_ok r2 e2]; exact .of h1, q.now w (dr_bl _)⟩
  · obtain ⟨x, rfl, r1⟩ := r.one_inv
    simp only [Option.bind_eq_bind, Option.bind_eq_some_iff] at e
    obtain ⟨es, e1, bs, e2, e⟩ := e
    cases e
    obtain ⟨a, ys, rfl, h1, r2⟩ := lstOf_ok w r1 e1
    exact ⟨a, bs, rfl, by rw [← bls_ok r2 e2]; exact .of h1, q.now w (dr_bl _)⟩
  · obtain ⟨x, rfl, r1⟩ := r.one_inv
    simp only [Option.bind_eq_bind, Option.bind_eq_some_iff] at e
    obtain ⟨es, e1, bs, e2, e⟩ := e
    cases e
    obtain ⟨a, ys, rfl, h1, r2⟩ := lstOf_ok w r1 e1
    exact ⟨a, bs, rfl, by rw [← ints_ok r2 e2]; exact .of h1, q.now w (dr_int _)⟩
  · obtain ⟨x, rfl, r1⟩ := r.one_inv
    cases e
    obtain ⟨a, ys, rfl, h1, r2⟩ := r1.tup
    exact ⟨a, ys, rfl, .inr ⟨h1.sqt, q.now w (dr_tup h1 r2)⟩⟩
  · obtain ⟨x, rfl, r1⟩ := r.one_inv
    simp only [Option.bind_eq_bind, Option.bind_eq_some_iff] at e
    obtain ⟨es, e1, e⟩ := e
    split at e
    · cases e
      obtain ⟨a, ys, rfl, h1, r2⟩ := lstOf_ok w r1 e1
      exact ⟨a, ys, rfl, .inl ⟨.of h1, fun p hp => newTup w r2 q p hp⟩⟩
    · cases e
  · obtain ⟨x, rfl, r1⟩ := r.one_inv
    simp only [Option.bind_eq_bind, Option.bind_eq_some_iff] at e
    obtain ⟨es, e1, e⟩ := e
    rcases seqK_ok w r1 e1 with ⟨a, ys, rfl, h1, r2⟩ | ⟨a, kvs, rfl, h1, rfl⟩
    · exact .inl ⟨a, ys, rfl, h1, fun p hp => newL_ok w r2 e q p hp⟩
    · exact .inr ⟨W, a, kvs, rfl, h1, fun p ys hp r2 => newL_ok w r2 e q p hp⟩
  · obtain ⟨x, rfl, r1⟩ := r.one_inv
    simp only [Option.bind_eq_bind, Option.bind_eq_some_iff] at e
    obtain ⟨es, e1, e⟩ := e
    obtain ⟨a, ys, rfl, h1, r2⟩ := lstOf_ok w r1 e1
    split at e
    · rename_i hp
      exact ⟨W, a, ys, es, rfl, .of h1, r2, hp, fun p zs hp r3 => newL_ok w r3 e q p hp⟩
    · cases e
  · exact absurd rfl hb
  · obtain ⟨x, y, rfl, r1, r2⟩ := r.two_inv
    cases e; rw [r1.int, r2.int]; exact ⟨_, _, rfl, q.now w (dr_int _)⟩
  · obtain ⟨x, y, rfl, r1, r2⟩ := r.two_inv
    cases e; rw [r1.int, r2.int]; exact ⟨_, _, rfl, q.now w (dr_int _)⟩
  · obtain ⟨x, y, rfl, r1, r2⟩ := r.two_inv
    cases e; rw [r1.int, r2.int]; exact ⟨_, _, rfl, q.now w (dr_int _)⟩
  · cases e

/-! ### isinstance -/
def tyN : Ty → String
  | .int => "int" | .bool => "bool" | .str => "str" | .list => "list" | .tuple => "tuple"
theorem kit_tab (t c : Ty) : kitB (tyN t) (tyN c) = some (tyLe t c) := by cases t <;> cases c <;> decide +kernel
theorem kit_none (c : Ty) : kitB "NoneType" (tyN c) = some false := by cases c <;> decide +kernel
theorem tyOf_ok {t : Ty} (w : WR K W M H) (r : DR K W H d v) (e : tyOf M d = some t) : TyX K.k H v (.type (tyN t)) := by
  cases d with
  | bl b => cases e; rw [r.bl]; exact .base (.bl b)
  | int i => cases e; rw [r.int]; exact .base (.int i)
  | str i => cases e; rw [r.str]; exact .base (.str i)
  | tup es =>
    cases e
    obtain ⟨a, xs, rfl, h1 | ⟨o, its, n, h1, h2, _⟩, h3⟩ := r.tup
    · exact .base (.tup h1)
    · exact .kTuple h1 h2
  | lst es =>
    cases e
    obtain ⟨a, xs, rfl, h1, _⟩ := r.lst
    exact .base (.lst h1)
  | ref n =>
    simp only [tyOf] at e
    split at e
    · rename_i es he
      cases e
      obtain ⟨a, rfl, h1⟩ := r.ref
      obtain ⟨xs, h3, h4⟩ := w.at_ n a _ h1 he
      exact .base (.lst h3)
    · cases e
  | _ => simp [tyOf] at e
theorem kits {K : PySem.W.Frag} {t : Value} {f : Ty → Bool} (h : ∀ c, PySem.W.kitOne K t (.type (tyN c)) = some (f c)) : ∀ ts : List Ty, PySem.W.kitAny K t (ts.map fun c => .type (tyN c)) = some (ts.any f)
  | [] => rfl
  | c :: cs => by
    show PySem.W.kitAny K t (.type (tyN c) :: cs.map fun c => .type (tyN c)) = _
    refine kitAny_cons (h c) (fun hb => ?_) fun hb => ?_
    · rw [kits h cs, List.any_cons, hb]; rfl
    · rw [List.any_cons, hb]; rfl
theorem semIsi_ok {ts : List Ty} {r : Bool} (w : WR K W M H) (rd : DR K W H d v) (e : semIsi M d ts = some r) : ∃ (t : Value) (f : Ty → Bool), TyX K.k H v t ∧ (∀ c, PySem.W.kitOne K.k t (.type (tyN c)) = some (f c)) ∧ ts.any f = r := by
  unfold semIsi at e
  split at e
  · cases e
    rw [rd.non]
    exact ⟨.type "NoneType", fun _ => false, .base .non, fun c => kit_ty (kit_none c), by simp⟩
  · simp only [Option.bind_eq_bind, Option.bind_eq_some_iff] at e
    obtain ⟨t, e1, e⟩ := e
    cases e
    exact ⟨.type (tyN t), tyLe t, tyOf_ok w rd e1, fun c => kit_ty (kit_tab t c), rfl⟩

/-! ### methods, stores -/
def mtR (K : Kw) : Mth → V → List V → Hp → VK → Prop
  | .append => rAppend
  | .insert => fun x vs H Q => ∃ (l : Addr) (xs : List V) (i : Int) (y : V), x = .ref l ∧ vs = [.int i, y] ∧ H l = some (.lst xs) ∧ xs.length < sizeLine ∧ 0 ≤ i ∧ i < 2 ^ 63 ∧
    Q .non (upd H l (.lst (xs.take i.toNat ++ [y] ++ xs.drop i.toNat)))
  | .get2 => rGetN K
theorem semM_ok {b : Mth} {a : D} (w : WR K W M H) (ra : DR K W H a v) (r : DRs K W H ds xs) (e : semM b M a ds = some (d, M')) (q : Post K W H M' d Q) : mtR K b v xs H Q := by
  unfold semM at e
  split at e
  · split at e
    · rename_i es he
      split at e
      · rename_i hl
        cases e
        obtain ⟨l, rfl, h1⟩ := ra.ref
        obtain ⟨ys, h3, h4⟩ := w.at_ _ l _ h1 he
        obtain ⟨y, rfl, r1⟩ := r.one_inv
        obtain ⟨w', x'⟩ := w.put h1 (h4.app (.one r1))
        exact ⟨l, ys, y, rfl, rfl, h3, by rw [← h4.length, ← lim_eq]; exact hl, q _ _ _ x' w' dr_non⟩
      · cases e
    · cases e
  · split at e
    · rename_i es he
      split at e
      · rename_i hl
        cases e
        obtain ⟨l, rfl, h1⟩ := ra.ref
        obtain ⟨ys, h3, h4⟩ := w.at_ _ l _ h1 he
        obtain ⟨z, y, rfl, r0, r1⟩ := r.two_inv
        obtain ⟨w', x'⟩ := w.put h1 (((h4.take _).app (.one r1)).app (h4.drop _))
        rw [r0.int]
        exact ⟨l, ys, _, y, rfl, rfl, h3, by rw [← h4.length, ← lim_eq]; exact hl.1, hl.2.1, hl.2.2, q _ _ _ x' w' dr_non⟩
      · cases e
    · cases e
  · simp only [Option.bind_eq_bind, Option.bind_eq_some_iff] at e
    obtain ⟨kvs, e1, e⟩ := e
    split at e
    · rename_i hk
      cases e
      obtain ⟨n, p, rfl, rfl, _, _, hm⟩ := dicOf_ok w ra e1
      obtain ⟨y, z, rfl, r1, r2⟩ := r.two_inv
      exact ⟨W, p, kvs, _, y, _, z, rfl, rfl, hm, r1, hk, r2, fun v r => q.now w r⟩
    · cases e
  · cases e
def setR (K : Kw) : TSet := fun o i v H Q => rSetL o i v H Q ∨ rSetN K o i v H Q
theorem setR_ok {X : Cx} (hu : X.A.units + 65 < cLine) : PSet X (setR (kwOf X)) := by
  intro pins s σ H o i v ov iv u Q I ro ri rv h
  rcases h with h | h
  · exact set_list pins s σ H o i v ov iv u Q I ro ri rv h
  · exact set_nest hu pins s σ H o i v ov iv u Q I ro ri rv h
theorem semPut_ok {o i : D} {Q : Hp → Prop} {ov iv : V} (w : WR K W M H) (ro : DR K W H o ov) (ri : DR K W H i iv) (rd : DR K W H d v) (e : semPut M o i d = some M') (q : ∀ W' H', Ext W H W' H' → WR K W' M' H' → Q H') : setR K ov iv v H Q := by
  unfold semPut at e
  split at e
  · split at e
    · rename_i n es he
      simp only [Option.bind_eq_bind, Option.bind_eq_some_iff] at e
      obtain ⟨k, e1, j, hj, e⟩ := e
      cases e
      obtain ⟨l, rfl, h1⟩ := ro.ref
      obtain ⟨ys, h3, h4⟩ := w.at_ _ l _ h1 he
      obtain ⟨w', x'⟩ := w.put h1 (h4.set j rd)
      rw [intOf_ok ri e1]
      exact .inl ⟨l, ys, _, j, rfl, rfl, h3, by rw [← h4.length]; exact hj, q _ _ x' w'⟩
    · rename_i n kvs he
      split at e
      · rename_i hk
        rw [Bool.and_eq_true, decide_eq_true_eq] at hk
        cases e
        obtain ⟨l, rfl, h1⟩ := ro.ref
        have hm := w.at_ _ l _ h1 he
        refine .inr ⟨W, l, kvs, i, d, rfl, hm, ri, hk.1, rd, by rw [← lim_eq]; exact hk.2, fun ho _ mk => ?_⟩
        obtain ⟨w', x'⟩ := w.putO (mo := .dic (putD kvs i d)) h1 fun W' H' x e => mk W' H' (fun d v r => r.mono w x) e
        exact q _ _ x' w'
      · cases e
    · cases e
  · cases e
end
end DL

set_option maxRecDepth 100000
namespace DL
open PySem PySem.Spec PyProof.Rows L2

/-! ### the look: is this tree that text? -/
structure Tab where
  fn : List Str
  ps : List (List Str)
  go : List (Str × D)
  bl : List Str
  gcd : Str
  kw : List (Nat × Nat × List Str × List Nat)
def vis (sc : Scope) (x : Str) : Bool := match sc.names.lookup x with | some .local => true | some .cell => true | some .free => true | _ => false
def locl (sc : Scope) (x : Str) : Bool := match sc.names.lookup x with | some .local => true | some .cell => true | _ => false
def gl (sc : Scope) (x : Str) : Bool := match sc.names.lookup x with | some .globalImplicit => x != ("__debug__" : Str) && x != ("__name__" : Str) | _ => false
def okN (x : Str) : Bool := x != ("__debug__" : Str) && x != ("__classdict__" : Str)
def conOk : D → Const → Bool
  | .int i, .int j => decide (i = j)
  | .bl i, .bool j => i == j
  | .non, .none => true
  | .str x, .str y => decide (x = y)
  | _, _ => false
def opIs (o : Op) (p : Operator) : Bool := opPy o == p
def cmIs (o : Cm) (p : CmpOp) : Bool := cmPy o == p
def isSlice : Expr → Bool | .Slice .. => true | _ => false
def isStar : Expr → Bool | .Starred .. => true | _ => false
def isSetE : Expr → Bool | .Set .. => true | _ => false
def isComp : Expr → Bool | .ListComp .. => true | .SetComp .. => true | .DictComp .. => true | _ => false
def isSuper : Expr → Bool | .Call (.Name id _) [] [] _ => id == ("super" : Str) | _ => false
def isTup : Expr → Bool | .Tuple .. => true | _ => false
def blN : Blt → Str
  | .len => "len" | .abs => "abs" | .int => "int" | .all => "all" | .any => "any" | .sum => "sum" | .tuple => "tuple" | .list => "list" | .gcd => "gcd" | .max2 => "max" | .min2 => "min" | .sortset => "sorted" | .sorted => "sorted"
def tyS : Ty → Str
  | .int => "int" | .bool => "bool" | .str => "str" | .list => "list" | .tuple => "tuple"
def mtN : Mth → Str
  | .append => "append" | .insert => "insert" | .get2 => "get"
def tyEs (T : Tab) (sc : Scope) : List Ty → List Expr → Bool
  | [], [] => true
  | t :: ts, .Name x _ :: es => decide (x = tyS t) && gl sc x && T.bl.contains x && tyEs T sc ts es
  | _, _ => false
mutual
def chkT (N : List Str) (raw : Scope) : Tg → Expr → Bool
  | .nm i, .Name x _ => decide (N[i]? = some x) && locl raw x
  | .nil, .Tuple [] _ _ => true
  | .cons t r, .Tuple (e :: es) _ _ => chkT N raw t e && chkTs N raw r es && !isStar e
  | _, _ => false
def chkTs (N : List Str) (raw : Scope) : Tg → List Expr → Bool
  | .nil, [] => true
  | .cons t r, e :: es => chkT N raw t e && chkTs N raw r es && !isStar e
  | _, _ => false
end
def isNon : E → Bool | .con .non => true | _ => false
def isYes : E → Bool | .yes => true | _ => false
def chkCs (f : Expr → Bool) (yes : Bool) : List Expr → Bool
  | [] => yes
  | [x] => f x
  | _ => false
def tgIn : Tg → List Nat → Bool
  | .nm i, own => own.contains i
  | .nil, _ => true
  | .cons t r, own => tgIn t own && tgIn r own
def gs2 : List Comprehension → Option (Expr × Expr × Expr × Expr)
  | [⟨tg, iter, [], a⟩, ⟨tg1, iter1, [], b⟩] => if a = 0 ∧ b = 0 then some (tg, iter, tg1, iter1) else none
  | _ => none
theorem gs2_eq {gs : List Comprehension} {a b c d : Expr} (h : gs2 gs = some (a, b, c, d)) : gs = [⟨a, b, [], 0⟩, ⟨c, d, [], 0⟩] := by
  unfold gs2 at h
  split at h
  · split at h
    · rename_i h2
      cases h
      rw [h2.1, h2.2]
    · cases h
  · cases h
def kwNames (kws : List Keyword) : List Str := kws.filterMap (·.arg)
section
variable (T : Tab) (N : List Str)
mutual
def chkE : E → Scope → Scope → Expr → Bool
  | .var i, raw, sc, .Name x _ => decide (N[i]? = some x) && vis sc x && okN x
  | .con d, raw, sc, .Constant c _ _ => conOk d c
  | .glo j d, raw, sc, .Name x _ => decide (T.go[j]? = some (x, d)) && gl sc x
  | .tup es, raw, sc, .Tuple l _ _ => chkEs es raw sc l
  | .lis _ es, raw, sc, .List l _ => chkEs es raw sc l
  | .op o _ a b, raw, sc, .BinOp l p r _ => opIs o p && chkE a raw sc l && chkE b raw sc r
  | .cmp o a b, raw, sc, .Compare l [p] [r] _ => cmIs o p && !isSetE r && chkE a raw sc l && chkE b raw sc r
  | .cmp2 o o' a b c, raw, sc, .Compare l [p, p'] [r, r'] _ => cmIs o p && cmIs o' p' && !isSetE r && !isSetE r' && chkE a raw sc l && chkE b raw sc r && chkE c raw sc r'
  | .neg a, raw, sc, .UnaryOp .USub l _ => chkE a raw sc l
  | .not a, raw, sc, .UnaryOp .Not l _ => chkE a raw sc l
  | .and a r, raw, sc, .BoolOp .And (x :: y :: l) _ => chkE a raw sc x && chkB true r raw sc (y :: l)
  | .or a r, raw, sc, .BoolOp .Or (x :: y :: l) _ => chkE a raw sc x && chkB false r raw sc (y :: l)
  | .ite c a b, raw, sc, .IfExp x y z _ => chkE c raw sc x && chkE a raw sc y && chkE b raw sc z
  | .idx a i, raw, sc, .Subscript x y _ => !isSlice y && chkE a raw sc x && chkE i raw sc y
  | .dict0 t, _, _, .Dict [] [] _ => t
  | .sset _ a, raw, sc, .Call (.Name x _) [.Call (.Name y _) [z] [] _] [] _ => decide (x = "sorted") && gl sc x && T.bl.contains x && decide (y = "set") && gl sc y && T.bl.contains y && !isStar z && chkE a raw sc z
  | .callk f perm es ks, raw, sc, .Call (.Name x _) l (kw :: kws) _ => decide (T.fn[f]? = some x) && gl sc x && l.all (!isStar ·) && decide ((f, l.length, kwNames (kw :: kws), perm) ∈ T.kw) && chkEs es raw sc l && chkK ks raw sc (kw :: kws)
  | .comp2 _ t own it t1 own1 it1 e, raw, sc, .ListComp elt gs scope _ => match gs2 gs with
    | some (tg, iter, tg1, iter1) =>
      blkC N sc scope (own.map fun i => (N.getD i "", i)) && own.all (fun i => decide (i < N.length)) && own1.all (fun i => own.contains i) && tgIn t own && tgIn t1 own1 && chkT N scope t tg && chkT N scope t1 tg1 && !isSetE iter1 && chkI it raw sc (isTup tg) iter && chkI it1 scope (relS scope sc) (isTup tg1) iter1 && chkE e scope (relS scope sc) elt
    | none => false
  | .sli _ a lo hi, raw, sc, .Subscript x (.Slice l h none _) _ => chkE a raw sc x && chkEs lo raw sc l.toList && chkEs hi raw sc h.toList && l.toList.all (!isStar ·) && h.toList.all (!isStar ·)
  | .call f es, raw, sc, .Call (.Name x _) l [] _ => decide (T.fn[f]? = some x) && gl sc x && l.all (!isStar ·) && !l.isEmpty && chkEs es raw sc l
  | .blt b _ es, raw, sc, .Call (.Name x _) l [] _ => decide (x = blN b) && gl sc x && (if b = .gcd then decide (T.gcd = x) else T.bl.contains x) && decide (b ≠ .sortset) && l.all (!isStar ·) && !l.isEmpty && chkEs es raw sc l
  | .isi a ts, raw, sc, .Call (.Name x _) [y, z] [] _ => decide (x = "isinstance") && gl sc x && T.bl.contains x && chkE a raw sc y && !isStar y && (match z with
      | .Tuple l _ _ => tyEs T sc ts l && decide (1 ≤ ts.length ∧ ts.length ≤ 5)
      | z => (match ts with | [t] => tyEs T sc [t] [z] | _ => false))
  | .mth b _ a es, raw, sc, .Call (.Attribute o n ap) l [] cp => decide (n = mtN b) && !isSuper o && (ap.endLine == cp.line) && l.all (!isStar ·) && !l.isEmpty && decide (l.length < 30) && chkE a raw sc o && chkEs es raw sc l
  | .comp _ t own it c e, raw, sc, .ListComp elt [⟨tg, iter, ifs, 0⟩] scope _ =>
      blkC N sc scope (own.map fun i => (N.getD i "", i)) && own.all (fun i => decide (i < N.length)) && tgIn t own && chkT N scope t tg && chkI it raw sc (isTup tg) iter && chkCs (fun x => chkE c scope (relS scope sc) x) (isYes c) ifs && chkE e scope (relS scope sc) elt
  | _, _, _, _ => false
def chkEs : E → Scope → Scope → List Expr → Bool
  | .nil, _, _, [] => true
  | .cons e es, raw, sc, x :: l => !isStar x && chkE e raw sc x && chkEs es raw sc l
  | .star e es, raw, sc, .Starred x _ :: l => chkE e raw sc x && chkEs es raw sc l
  | _, _, _, _ => false
def chkK : E → Scope → Scope → List Keyword → Bool
  | .nil, _, _, [] => true
  | .cons e es, raw, sc, ⟨some _, x, _⟩ :: l => chkE e raw sc x && chkK es raw sc l
  | _, _, _, _ => false
def chkB (c : Bool) : E → Scope → Scope → List Expr → Bool
  | .one a, raw, sc, [x] => chkE a raw sc x
  | .and a r, raw, sc, x :: y :: l => c && chkE a raw sc x && chkB c r raw sc (y :: l)
  | .or a r, raw, sc, x :: y :: l => !c && chkE a raw sc x && chkB c r raw sc (y :: l)
  | _, _, _, _ => false
def chkI : E → Scope → Scope → Bool → Expr → Bool
  | .iseq a, raw, sc, _, x => !isSetE x && chkE a raw sc x
  | .irange1 a, raw, sc, _, .Call (.Name f _) [x] [] _ => decide (f = "range") && gl sc f && T.bl.contains f && !isStar x && chkE a raw sc x
  | .irange2 a b, raw, sc, _, .Call (.Name f _) [x, y] [] _ => decide (f = "range") && gl sc f && T.bl.contains f && !isStar x && !isStar y && chkE a raw sc x && chkE b raw sc y
  | .irange3 a b c, raw, sc, _, .Call (.Name f _) [x, y, z] [] _ => decide (f = "range") && gl sc f && T.bl.contains f && !isStar x && !isStar y && !isStar z && chkE a raw sc x && chkE b raw sc y && chkE c raw sc z
  | .ienum a, raw, sc, true, .Call (.Name f _) [x] [] _ => decide (f = "enumerate") && gl sc f && T.bl.contains f && !isStar x && chkE a raw sc x
  | .izip a b, raw, sc, true, .Call (.Name f _) [x, y] [] _ => decide (f = "zip") && gl sc f && T.bl.contains f && !isStar x && !isStar y && chkE a raw sc x && chkE b raw sc y
  | _, _, _, _, _ => false
end
end
end DL

set_option maxRecDepth 100000
namespace DL
open PySem PySem.Spec PyProof.Rows L2

def tyE (K : Kw) (ev : En → Mm → Option (D × Mm)) : TE := fun σ H Q => ∃ env W M d M', RE K W H env σ ∧ WR K W M H ∧ ev env M = some (d, M') ∧ Post K W H M' d Q
def tyT (K : Kw) (ev : En → Mm → Option (Bool × Mm)) : TT := fun σ H Q => ∃ env W M b M', RE K W H env σ ∧ WR K W M H ∧ ev env M = some (b, M') ∧ PostB K W H M' b Q
def tyA (K : Kw) (ev : En → Mm → Option (List D × Mm)) : TA := fun σ H Q => ∃ env W M ds M', RE K W H env σ ∧ WR K W M H ∧ ev env M = some (ds, M') ∧ PostA K W H M' ds Q
/-- an iterator that gives these items as long as these lists stand -/
def ItOk (K : Kw) (J : It) (I : ItD) (W : Wd) (H : Hp) : Prop := ∀ W' H' M', ExtW W H W' H' → WR K W' M' H' → chks I.src M' = true →
  (∀ (i : Nat) (d : D), I.items[i]? = some d → J.go i H' ∧ ∀ x H'', J.yld i H' x H'' → Ext W' H' W' H'' ∧ WR K W' M' H'' ∧ DR K W' H'' d x) ∧ ∀ i : Nat, I.items.length ≤ i → J.stop i H'
def tyI (K : Kw) (ev : En → Mm → Option (ItD × Mm)) : TI := fun σ H R => ∃ env W M I M', RE K W H env σ ∧ WR K W M H ∧ ev env M = some (I, M') ∧ ∀ W' H' J, Ext W H W' H' → WR K W' M' H' → ItOk K J I W' H' → R J H'
def spD (K : Kw) (call : CallF) (f n : Nat) : Sp := fun vs H Q _ => vs.length = n ∧ ∃ W M ds d M', WR K W M H ∧ DRs K W H ds vs ∧ call f ds M = some (d, M') ∧ Post K W H M' d Q

/-- the values of a call with keywords, in the parameters' order -/
def permG (perm : List Nat) (us ws : List Value) : List Value := perm.map fun j => (us ++ ws).getD j .none
def permV (perm : List Nat) (us ws : List V) : List V := perm.map fun j => (us ++ ws).getD j .non
theorem Vals.getD {vs : List V} {us : List Value} (r : Vals vs us) (j : Nat) : RelV (vs.getD j .non) (us.getD j .none) := by
  induction r generalizing j with
  | nil => exact rfl
  | cons h t ih =>
    cases j with
    | zero => exact h
    | succ j => exact ih j
theorem vals_app {vs zs : List V} {us ws : List Value} (r : Vals vs us) (q : Vals zs ws) : Vals (vs ++ zs) (us ++ ws) := by
  induction r with
  | nil => exact q
  | cons h t ih => exact .cons h ih
theorem perm_rel (perm : List Nat) {vs zs : List V} {us ws : List Value} (r : Vals vs us) (q : Vals zs ws) : Vals (permV perm vs zs) (permG perm us ws) := by
  have a := vals_app r q
  unfold permV permG
  induction perm with
  | nil => exact .nil
  | cons j l ih => exact .cons (Vals.getD a j) ih
structure Gf (T : Tab) (call : CallF) (P : Program) (w : World) (K : PySem.W.Frag) (mg : Str → Option Value) (base : Heap) (k : Nat) : Prop where
  np : ∀ (f : Nat) (ds : List D) (M : Mm) (r : D × Mm), call f ds M = some r → ∃ ps, T.ps[f]? = some ps ∧ ds.length = ps.length
  fns : ∀ (f : Nat) (x : Str), T.fn[f]? = some x → ∃ ps fa fd, T.ps[f]? = some ps ∧ FnOk P w K mg base CX0 k fa fd ps (spD ⟨K, P, w⟩ call f ps.length) ∧ mg x = some (.ref fa) ∧ PySem.W.keepIn K (.ref fa) = true ∧ Binds K fd ps [] ∧
    ∀ n ks perm, (f, n, ks, perm) ∈ T.kw → KBn K fd ps n ks (permG perm) (permV perm)
  gos : ∀ (j : Nat) (x : Str) (d : D), T.go[j]? = some (x, d) → ∃ u v, mg x = some u ∧ RelV v u ∧ ∀ W H, DR ⟨K, P, w⟩ W H d v
  bls : ∀ x, x ∈ T.bl → mg x = none
  gcd : T.gcd = "gcd" → mg T.gcd = some (.builtin "math.gcd")
structure Ck (T : Tab) (call : CallF) (N : List Str) (raw sc : Scope) (k : Nat) (X : Cx) : Prop where
  g : Gf T call X.prog X.w X.K X.mg X.base k
  hN : X.N = N
  nd : N.Nodup
  hsc : X.env.scope = sc
  calm : X.calm = true
  room : Room k X.A
  fn : ∀ x, raw.names.lookup x = some .cell → X.fn x = true
  loc : ∀ x, raw.names.lookup x = some .local → sc.names.lookup x = some .local
  cel : ∀ x, raw.names.lookup x = some .cell → sc.names.lookup x = some .cell
  xe : X.xe = fun _ _ => False

section
variable {X : Cx} {x : Expr} {t t' : TE}
theorem pe_imp (h : PE X x t) (hi : ∀ σ H Q, t' σ H Q → t σ H Q) : PE X x t' := ⟨fun pins s σ H Q I q => h.run pins s σ H Q I (hi σ H Q q)⟩
theorem pt_imp {t t' : TT} (h : PT X x t) (hi : ∀ σ H Q, t' σ H Q → t σ H Q) : PT X x t' := ⟨fun pins s σ H Q I q => h.run pins s σ H Q I (hi σ H Q q)⟩
theorem pw_imp {t t' : TT} (h : PW X x t) (hi : ∀ σ H Q, t' σ H Q → t σ H Q) : PW X x t' := ⟨fun wh pins s σ H Q I q => h.run wh pins s σ H Q I (hi σ H Q q)⟩
theorem pa_imp {es : List Expr} {t t' : TA} (h : PA X es t) (hi : ∀ σ H Q, t' σ H Q → t σ H Q) : PA X es t' := ⟨fun pos pins s σ H Q I q => h.run pos pins s σ H Q I (hi σ H Q q)⟩
theorem pi_imp {tg : Expr} {t t' : TI} (h : PI X tg x t) (hi : ∀ σ H Q, t' σ H Q → t σ H Q) : PI X tg x t' := ⟨fun pins s σ H Q I q => h.run pins s σ H Q I (hi σ H Q q)⟩
theorem pe_no {ev : En → Mm → Option (D × Mm)} (h : ∀ env M, ev env M = none) : PE X x (tyE (kwOf X) ev) := ⟨fun _ _ _ _ _ _ ⟨_, _, _, _, _, _, _, e, _⟩ => by rw [h] at e; cases e⟩
theorem pt_no {ev : En → Mm → Option (Bool × Mm)} (h : ∀ env M, ev env M = none) : PT X x (tyT (kwOf X) ev) := ⟨fun _ _ _ _ _ _ ⟨_, _, _, _, _, _, _, e, _⟩ => by rw [h] at e; cases e⟩
theorem pw_no {ev : En → Mm → Option (Bool × Mm)} (h : ∀ env M, ev env M = none) : PW X x (tyT (kwOf X) ev) := ⟨fun _ _ _ _ _ _ _ ⟨_, _, _, _, _, _, _, e, _⟩ => by rw [h] at e; cases e⟩
end
theorem star_plain {e : Expr} {es : List Expr} {env : Env} (h : isStar e = false) : starEach (e :: es) env = (false, eval e env) :: starEach es env := by
  cases e <;> first | rfl | (exact absurd h (by simp [isStar]))
theorem back_plain {pos : Pos} {env : Env} : ∀ {es : List Expr}, (es.all fun e => !isStar e) = true → (backTo pos (starEach es env)).any (·.1) = false
  | [], _ => rfl
  | e :: es, h => by
    simp only [List.all_cons, Bool.and_eq_true, Bool.not_eq_true'] at h
    rw [star_plain h.1]
    show (false || (backTo pos (starEach es env)).any (·.1)) = false
    rw [back_plain (by simpa using h.2)]; rfl
theorem ix_plain {y : Expr} (h : isSlice y = false) : PlainIx y := by
  intro o i
  cases y <;> first | rfl | (exact absurd h (by simp [isSlice]))
theorem marks_plain {op : CmpOp} {y : Expr} (h : isSetE y = false) : behindInMarks op y = false := by
  cases y <;> first | rfl | (exact absurd h (by simp [isSetE]))
theorem fold_plain {y : Expr} {env : Env} (h : isSetE y = false) : ∀ x, foldedSetIterable y env x = pure x := by
  intro x
  cases y <;> first | rfl | (exact absurd h (by simp [isSetE]))
theorem base_plain {o : Expr} {n : Str} {env : Env} (h : isSuper o = false) (whole : Sem Value) : attributeBase o n env whole = whole := by
  unfold attributeBase
  split
  · rename_i id p1 p2
    simp only [isSuper] at h
    have e : (id != ("super" : Str)) = true := by simp only [bne, h]; rfl
    rw [e]; rfl
  · rfl
theorem vis_of {sc : Scope} {x : Str} (h : vis sc x = true) : Vis sc x := by
  unfold vis at h
  split at h <;> first | (rename_i e; first | exact .inl e | exact .inr (.inl e) | exact .inr (.inr e)) | cases h
theorem gl_of {sc : Scope} {x : Str} (h : gl sc x = true) : sc.names.lookup x = some .globalImplicit ∧ (x == ("__debug__" : Str)) = false ∧ x ≠ "__name__" := by
  unfold gl at h
  split at h
  · rename_i e
    simp only [Bool.and_eq_true, bne_iff_ne, ne_eq] at h
    exact ⟨e, by simpa using h.1, h.2⟩
  · cases h
theorem okN_of {x : Str} (h : okN x = true) : (x == ("__debug__" : Str)) = false ∧ (x == ("__classdict__" : Str)) = false := by
  simp only [okN, Bool.and_eq_true, bne_iff_ne, ne_eq] at h
  exact ⟨by simpa using h.1, by simpa using h.2⟩
section
variable {T : Tab} {call : CallF} {N : List Str} {raw sc : Scope} {k : Nat} {X : Cx}
theorem Ck.gl (c : Ck T call N raw sc k X) {x : Str} (h : gl sc x = true) : Gl X x ∧ (x == ("__debug__" : Str)) = false ∧ x ≠ "__name__" := by
  obtain ⟨h1, h2, h3⟩ := gl_of h
  refine ⟨?_, h2, h3⟩
  show X.env.scope.names.lookup x = _
  rw [c.hsc]; exact h1
theorem Ck.units (c : Ck T call N raw sc k X) : X.A.units + 65 < cLine := by
  have := c.room.un
  omega

/-! ### arguments -/
theorem snd_nil : PA X [] (tyA (kwOf X) (evEs call .nil)) := pa_imp pa_nil fun σ H Q ⟨env, W, M, ds, M', re, wr, e, q⟩ => by
  simp only [evEs] at e
  cases e
  exact q W H [] wr.refl wr .nil
theorem snd_cons {a b : E} {x : Expr} {l : List Expr} (h : isStar x = false) (ha : PE X x (tyE (kwOf X) (evE call a))) (hb : PA X l (tyA (kwOf X) (evEs call b))) : PA X (x :: l) (tyA (kwOf X) (evEs call (.cons a b))) :=
  pa_imp (pa_cons ha hb (star_plain h)) fun σ H Q ⟨env, W, M, ds, M', re, wr, e, q⟩ => by
    simp only [evEs, Option.bind_eq_some_iff] at e
    obtain ⟨⟨d1, M1⟩, e1, ⟨d2, M2⟩, e2, e⟩ := e
    cases e
    exact ⟨env, W, M, d1, M1, re, wr, e1, fun W1 H1 v1 x1 w1 r1 => ⟨env, W1, M1, d2, M2, re.mono wr x1, w1, e2, fun W2 H2 vs x2 w2 r2 => q W2 H2 _ (x1.trans x2) w2 (.cons (r1.mono w1 x2) r2)⟩⟩

/-! ### expressions -/
theorem snd_var {i : Nat} {x : Str} {pos : Pos} (c : Ck T call N raw sc k X) (h1 : N[i]? = some x) (h2 : vis sc x = true) (h3 : okN x = true) : PE X (.Name x pos) (tyE (kwOf X) (evE call (.var i))) := by
  have hv : Vis X.env.scope x := by rw [c.hsc]; exact vis_of h2
  refine pe_imp (pe_var (i := i) (by rw [c.hN]; exact h1) hv (okN_of h3).1 (okN_of h3).2) fun σ H Q ⟨env, W, M, d, M', re, wr, e, q⟩ => ?_
  simp only [evE] at e
  split at e
  · rename_i d' hd
    cases e
    obtain ⟨v, e1, r⟩ := re.2 i _ hd
    exact ⟨v, e1, q.now wr r⟩
  · cases e
theorem conOk_pe {d : D} {cc : Const} {kk : Nat} {pos : Pos} (h : conOk d cc = true) : ∃ v, PE X (.Constant cc kk pos) (tC v) ∧ ∀ K W H, DR K W H d v := by
  unfold conOk at h
  split at h
  · have e := of_decide_eq_true h; subst e; exact ⟨_, pe_int, fun _ _ _ => dr_int _⟩
  · have e := eq_of_beq h; subst e; exact ⟨_, pe_bl, fun _ _ _ => dr_bl _⟩
  · exact ⟨_, pe_non, fun _ _ _ => dr_non⟩
  · have e := of_decide_eq_true h; subst e; exact ⟨_, pe_str, fun _ _ _ => dr_str _⟩
  · cases h
theorem snd_con {d : D} {cc : Const} {kk : Nat} {pos : Pos} (h : conOk d cc = true) : PE X (.Constant cc kk pos) (tyE (kwOf X) (evE call (.con d))) := by
  obtain ⟨v, h1, h2⟩ := conOk_pe (X := X) (kk := kk) (pos := pos) h
  refine pe_imp h1 fun σ H Q ⟨env, W, M, d, M', re, wr, e, q⟩ => ?_
  simp only [evE] at e
  cases e
  exact q.now wr (h2 _ _ _)
theorem snd_glo {j : Nat} {d : D} {x : Str} {pos : Pos} (c : Ck T call N raw sc k X) (h1 : T.go[j]? = some (x, d)) (h2 : gl sc x = true) : PE X (.Name x pos) (tyE (kwOf X) (evE call (.glo j d))) := by
  obtain ⟨g1, g2, g3⟩ := c.gl h2
  obtain ⟨u, v, e1, r, e2⟩ := c.g.gos j x d h1
  refine pe_imp (pe_glob g1 e1 r g2) fun σ H Q ⟨env, W, M, d, M', re, wr, e, q⟩ => ?_
  simp only [evE] at e
  cases e
  exact q.now wr (e2 _ _)
theorem snd_tup {a : E} {l : List Expr} {kk : Nat} {pos : Pos} (ha : PA X l (tyA (kwOf X) (evEs call a))) : PE X (.Tuple l kk pos) (tyE (kwOf X) (evE call (.tup a))) :=
  pe_imp (pe_tup ha) fun σ H Q ⟨env, W, M, d, M', re, wr, e, q⟩ => by
    simp only [evE, Option.bind_eq_some_iff] at e
    obtain ⟨⟨ds, M1⟩, e1, e⟩ := e
    split at e
    · rename_i hl
      cases e
      exact ⟨env, W, M, ds, M1, re, wr, e1, fun W1 H1 vs x1 w1 r1 => ⟨by rw [← r1.length, ← lim_eq]; exact hl, fun p hp => newTup w1 r1 (q.ext x1) p hp⟩⟩
    · cases e
theorem snd_lis {a : E} {m : Bool} {l : List Expr} {pos : Pos} (ha : PA X l (tyA (kwOf X) (evEs call a))) : PE X (.List l pos) (tyE (kwOf X) (evE call (.lis m a))) :=
  pe_imp (pe_lst ha) fun σ H Q ⟨env, W, M, d, M', re, wr, e, q⟩ => by
    simp only [evE, Option.bind_eq_some_iff] at e
    obtain ⟨⟨ds, M1⟩, e1, e⟩ := e
    exact ⟨env, W, M, ds, M1, re, wr, e1, fun W1 H1 vs x1 w1 r1 => ⟨by rw [← r1.length]; exact newL_len e, fun p hp => newL_ok w1 r1 e (q.ext x1) p hp⟩⟩
/-- two expressions, then something by values -/
theorem two {a b : E} {σ : L2.St} {H : Hp} {R : V → V → Hp → Prop} {env : En} {W : Wd} {M M1 M2 : Mm} {d1 d2 : D} (re : RE (kwOf X) W H env σ) (wr : WR (kwOf X) W M H) (e1 : evE call a env M = some (d1, M1)) (e2 : evE call b env M1 = some (d2, M2))
    (h : ∀ W2 H2 v1 v2, Ext W H W2 H2 → WR (kwOf X) W2 M2 H2 → DR (kwOf X) W2 H2 d1 v1 → DR (kwOf X) W2 H2 d2 v2 → R v1 v2 H2) :
    tyE (kwOf X) (evE call a) σ H fun v1 H1 => tyE (kwOf X) (evE call b) σ H1 fun v2 H2 => R v1 v2 H2 :=
  ⟨env, W, M, d1, M1, re, wr, e1, fun W1 H1 v1 x1 w1 r1 => ⟨env, W1, M1, d2, M2, re.mono wr x1, w1, e2, fun W2 H2 v2 x2 w2 r2 => h W2 H2 v1 v2 (x1.trans x2) w2 (r1.mono w1 x2) r2⟩⟩
variable {a b cE : E} {x y z : Expr} {pos : Pos}
theorem snd_op {o : Op} {m : Bool} (ha : PE X x (tyE (kwOf X) (evE call a))) (hb : PE X y (tyE (kwOf X) (evE call b))) : PE X (.BinOp x (opPy o) y pos) (tyE (kwOf X) (evE call (.op o m a b))) :=
  pe_imp (pe_op (opR_ok o) ha hb) fun σ H Q ⟨env, W, M, d, M', re, wr, e, q⟩ => by
    simp only [evE, Option.bind_eq_some_iff] at e
    obtain ⟨⟨d1, M1⟩, e1, ⟨d2, M2⟩, e2, e⟩ := e
    exact two re wr e1 e2 fun W2 H2 v1 v2 x2 w2 r1 r2 => semO_ok w2 r1 r2 e (q.ext x2)
theorem snd_cmp {o : Cm} (hu : X.A.units + 65 < cLine) (hm : isSetE y = false) (ha : PE X x (tyE (kwOf X) (evE call a))) (hb : PE X y (tyE (kwOf X) (evE call b))) : PE X (.Compare x [cmPy o] [y] pos) (tyE (kwOf X) (evE call (.cmp o a b))) :=
  pe_imp (pe_cmpR (cmR_ok hu o) ha hb (marks_plain hm)) fun σ H Q ⟨env, W, M, d, M', re, wr, e, q⟩ => by
    simp only [evE, Option.bind_eq_some_iff, Option.map_eq_some_iff] at e
    obtain ⟨⟨d1, M1⟩, e1, ⟨d2, M2⟩, e2, r, e3, e⟩ := e
    cases e
    exact two re wr e1 e2 fun W2 H2 v1 v2 x2 w2 r1 r2 => semC_ok w2 r1 r2 e3 ((q.ext x2).now w2 (dr_bl _))
theorem snd_cmpT {o : Cm} (hu : X.A.units + 65 < cLine) (hm : isSetE y = false) (ha : PE X x (tyE (kwOf X) (evE call a))) (hb : PE X y (tyE (kwOf X) (evE call b))) : PT X (.Compare x [cmPy o] [y] pos) (tyT (kwOf X) (evT call (.cmp o a b))) :=
  pt_imp (pt_cmpR (cmR_ok hu o) ha hb (marks_plain hm)) fun σ H Q ⟨env, W, M, d, M', re, wr, e, q⟩ => by
    simp only [evT, Option.bind_eq_some_iff, Option.map_eq_some_iff] at e
    obtain ⟨⟨d1, M1⟩, e1, ⟨d2, M2⟩, e2, r, e3, e⟩ := e
    cases e
    exact two re wr e1 e2 fun W2 H2 v1 v2 x2 w2 r1 r2 => semC_ok (Q := fun z H' => ∃ k, z = .bl k ∧ Q k H') w2 r1 r2 e3 ⟨_, rfl, (q.ext x2).now w2⟩
theorem marks2 {o o' : CmpOp} (hm : isSetE z = false) : lastMarks [o, o'] [y, z] = false := by
  show behindInMarks o' z = false
  exact marks_plain hm
theorem snd_cmp2 {o o' : Cm} (hu : X.A.units + 65 < cLine) (hm : isSetE z = false) (ha : PE X x (tyE (kwOf X) (evE call a))) (hb : PE X y (tyE (kwOf X) (evE call b))) (hc : PE X z (tyE (kwOf X) (evE call cE))) :
    PE X (.Compare x [cmPy o, cmPy o'] [y, z] pos) (tyE (kwOf X) (evE call (.cmp2 o o' a b cE))) :=
  pe_imp (pe_chain (cmR_ok hu o) (cmR_ok hu o') ha hb hc (marks2 hm)) fun σ H Q ⟨env, W, M, d, M', re, wr, e, q⟩ => by
    simp only [evE, Option.bind_eq_some_iff] at e
    obtain ⟨⟨d1, M1⟩, e1, ⟨d2, M2⟩, e2, r, e3, e⟩ := e
    refine two re wr e1 e2 fun W2 H2 v1 v2 x2 w2 r1 r2 => semC_ok (Q := fun z H' => ∃ k, z = .bl k ∧ _) w2 r1 r2 e3 ⟨_, rfl, ?_⟩
    cases r with
    | true =>
      simp only [if_true, Option.bind_eq_some_iff, Option.map_eq_some_iff] at e ⊢
      obtain ⟨⟨d3, M3⟩, e4, r', e5, e⟩ := e
      cases e
      exact ⟨env, W2, M2, d3, M3, re.mono wr x2, w2, e4, fun W3 H3 v3 x3 w3 r3 => semC_ok w3 (r2.mono w2 x3) r3 e5 ((q.ext (x2.trans x3)).now w3 (dr_bl _))⟩
    | false =>
      simp only [Bool.false_eq_true, if_false] at e ⊢
      cases e
      exact (q.ext x2).now w2 (dr_bl _)
theorem snd_cmp2T {o o' : Cm} (hu : X.A.units + 65 < cLine) (hm : isSetE z = false) (ha : PE X x (tyE (kwOf X) (evE call a))) (hb : PE X y (tyE (kwOf X) (evE call b))) (hc : PE X z (tyE (kwOf X) (evE call cE))) :
    PT X (.Compare x [cmPy o, cmPy o'] [y, z] pos) (tyT (kwOf X) (evT call (.cmp2 o o' a b cE))) :=
  pt_imp (pt_chain (cmR_ok hu o) (cmR_ok hu o') ha hb hc (marks2 hm)) fun σ H Q ⟨env, W, M, d, M', re, wr, e, q⟩ => by
    simp only [evT, Option.bind_eq_some_iff] at e
    obtain ⟨⟨d1, M1⟩, e1, ⟨d2, M2⟩, e2, r, e3, e⟩ := e
    refine two re wr e1 e2 fun W2 H2 v1 v2 x2 w2 r1 r2 => semC_ok (Q := fun z H' => ∃ k, z = .bl k ∧ _) w2 r1 r2 e3 ⟨_, rfl, ?_⟩
    cases r with
    | true =>
      simp only [if_true, Option.bind_eq_some_iff, Option.map_eq_some_iff] at e ⊢
      obtain ⟨⟨d3, M3⟩, e4, r', e5, e⟩ := e
      cases e
      exact ⟨env, W2, M2, d3, M3, re.mono wr x2, w2, e4, fun W3 H3 v3 x3 w3 r3 => semC_ok (Q := fun x H' => ∃ k, x = .bl k ∧ Q k H') w3 (r2.mono w2 x3) r3 e5 ⟨_, rfl, (q.ext (x2.trans x3)).now w3⟩⟩
    | false =>
      simp only [Bool.false_eq_true, if_false] at e ⊢
      cases e
      exact ⟨_, rfl, (q.ext x2).now w2⟩
theorem snd_neg (ha : PE X x (tyE (kwOf X) (evE call a))) : PE X (.UnaryOp .USub x pos) (tyE (kwOf X) (evE call (.neg a))) :=
  pe_imp (pe_un un_neg ha) fun σ H Q ⟨env, W, M, d, M', re, wr, e, q⟩ => by
    simp only [evE, Option.bind_eq_some_iff, Option.map_eq_some_iff] at e
    obtain ⟨⟨d1, M1⟩, e1, i, e2, e⟩ := e
    cases e
    exact ⟨env, W, M, d1, M1, re, wr, e1, fun W1 H1 v1 x1 w1 r1 => ⟨i, intOf_ok r1 e2, (q.ext x1).now w1 (dr_int _)⟩⟩
theorem snd_not (ha : PE X x (tyE (kwOf X) (evE call a))) : PE X (.UnaryOp .Not x pos) (tyE (kwOf X) (evE call (.not a))) :=
  pe_imp (pe_not ha) fun σ H Q ⟨env, W, M, d, M', re, wr, e, q⟩ => by
    simp only [evE, Option.bind_eq_some_iff] at e
    obtain ⟨⟨d1, M1⟩, e1, e⟩ := e
    split at e
    · rename_i b he
      cases e
      simp only at he
      subst he
      exact ⟨env, W, M, _, M1, re, wr, e1, fun W1 H1 v1 x1 w1 r1 => ⟨b, r1.bl, (q.ext x1).now w1 (dr_bl _)⟩⟩
    · cases e
theorem snd_notT (ha : PT X x (tyT (kwOf X) (evT call a))) : PT X (.UnaryOp .Not x pos) (tyT (kwOf X) (evT call (.not a))) :=
  pt_imp (pt_not ha) fun σ H Q ⟨env, W, M, d, M', re, wr, e, q⟩ => by
    simp only [evT, Option.bind_eq_some_iff] at e
    obtain ⟨⟨d1, M1⟩, e1, e⟩ := e
    cases e
    exact ⟨env, W, M, _, M1, re, wr, e1, fun W1 H1 x1 w1 => (q.ext x1).now w1⟩
theorem snd_and {l : List Expr} (ha : PE X x (tyE (kwOf X) (evE call a))) (hb : PE X (.BoolOp .And (y :: l) pos) (tyE (kwOf X) (evE call b))) : PE X (.BoolOp .And (x :: y :: l) pos) (tyE (kwOf X) (evE call (.and a b))) :=
  pe_imp (pe_and ha hb) fun σ H Q ⟨env, W, M, d, M', re, wr, e, q⟩ => by
    simp only [evE, Option.bind_eq_some_iff] at e
    obtain ⟨⟨d1, Ma⟩, e1, e⟩ := e
    cases d1 with
    | bl bb =>
      cases bb with
      | true =>
        refine ⟨env, W, M, _, Ma, re, wr, e1, fun W1 H1 v1 x1 w1 r1 => ⟨true, r1.bl, ?_⟩⟩
        simp only [if_true] at e ⊢
        exact ⟨env, W1, Ma, d, M', re.mono wr x1, w1, e, q.ext x1⟩
      | false =>
        refine ⟨env, W, M, _, Ma, re, wr, e1, fun W1 H1 v1 x1 w1 r1 => ⟨false, r1.bl, ?_⟩⟩
        simp only [Bool.false_eq_true, if_false] at e ⊢
        cases e
        exact (q.ext x1).now w1 (dr_bl _)
    | _ => simp at e
theorem snd_or {l : List Expr} (ha : PE X x (tyE (kwOf X) (evE call a))) (hb : PE X (.BoolOp .Or (y :: l) pos) (tyE (kwOf X) (evE call b))) : PE X (.BoolOp .Or (x :: y :: l) pos) (tyE (kwOf X) (evE call (.or a b))) :=
  pe_imp (pe_or ha hb) fun σ H Q ⟨env, W, M, d, M', re, wr, e, q⟩ => by
    simp only [evE, Option.bind_eq_some_iff] at e
    obtain ⟨⟨d1, Ma⟩, e1, e⟩ := e
    cases d1 with
    | bl bb =>
      cases bb with
      | true =>
        refine ⟨env, W, M, _, Ma, re, wr, e1, fun W1 H1 v1 x1 w1 r1 => ⟨true, r1.bl, ?_⟩⟩
        simp only [if_true] at e ⊢
        cases e
        exact (q.ext x1).now w1 (dr_bl _)
      | false =>
        refine ⟨env, W, M, _, Ma, re, wr, e1, fun W1 H1 v1 x1 w1 r1 => ⟨false, r1.bl, ?_⟩⟩
        simp only [Bool.false_eq_true, if_false] at e ⊢
        exact ⟨env, W1, Ma, d, M', re.mono wr x1, w1, e, q.ext x1⟩
    | _ => simp at e
theorem snd_andT {l : List Expr} (ha : PT X x (tyT (kwOf X) (evT call a))) (hb : PW X (.BoolOp .And (y :: l) pos) (tyT (kwOf X) (evT call b))) : PW X (.BoolOp .And (x :: y :: l) pos) (tyT (kwOf X) (evT call (.and a b))) :=
  pw_imp (pw_and ha hb) fun σ H Q ⟨env, W, M, d, M', re, wr, e, q⟩ => by
    simp only [evT, Option.bind_eq_some_iff] at e
    obtain ⟨⟨b1, M1⟩, e1, e⟩ := e
    refine ⟨env, W, M, b1, M1, re, wr, e1, fun W1 H1 x1 w1 => ?_⟩
    cases b1 with
    | true => simp only [if_true] at e ⊢; exact ⟨env, W1, M1, d, M', re.mono wr x1, w1, e, q.ext x1⟩
    | false => simp only [Bool.false_eq_true, if_false] at e ⊢; cases e; exact (q.ext x1).now w1
theorem snd_orT {l : List Expr} (ha : PT X x (tyT (kwOf X) (evT call a))) (hb : PW X (.BoolOp .Or (y :: l) pos) (tyT (kwOf X) (evT call b))) : PW X (.BoolOp .Or (x :: y :: l) pos) (tyT (kwOf X) (evT call (.or a b))) :=
  pw_imp (pw_or ha hb) fun σ H Q ⟨env, W, M, d, M', re, wr, e, q⟩ => by
    simp only [evT, Option.bind_eq_some_iff] at e
    obtain ⟨⟨b1, M1⟩, e1, e⟩ := e
    refine ⟨env, W, M, b1, M1, re, wr, e1, fun W1 H1 x1 w1 => ?_⟩
    cases b1 with
    | false => simp only [Bool.false_eq_true, if_false] at e ⊢; exact ⟨env, W1, M1, d, M', re.mono wr x1, w1, e, q.ext x1⟩
    | true => simp only [if_true] at e ⊢; cases e; exact (q.ext x1).now w1
theorem snd_ite (hc : PT X x (tyT (kwOf X) (evT call cE))) (ha : PE X y (tyE (kwOf X) (evE call a))) (hb : PE X z (tyE (kwOf X) (evE call b))) : PE X (.IfExp x y z pos) (tyE (kwOf X) (evE call (.ite cE a b))) :=
  pe_imp (pe_ifExp hc ha hb) fun σ H Q ⟨env, W, M, d, M', re, wr, e, q⟩ => by
    simp only [evE, Option.bind_eq_some_iff] at e
    obtain ⟨⟨b1, M1⟩, e1, e⟩ := e
    refine ⟨env, W, M, b1, M1, re, wr, e1, fun W1 H1 x1 w1 => ?_⟩
    cases b1 with
    | false => simp only [Bool.false_eq_true, if_false] at e ⊢; exact ⟨env, W1, M1, d, M', re.mono wr x1, w1, e, q.ext x1⟩
    | true => simp only [if_true] at e ⊢; exact ⟨env, W1, M1, d, M', re.mono wr x1, w1, e, q.ext x1⟩
theorem snd_idx (hu : X.A.units + 65 < cLine) (hs : isSlice y = false) (ha : PE X x (tyE (kwOf X) (evE call a))) (hb : PE X y (tyE (kwOf X) (evE call b))) : PE X (.Subscript x y pos) (tyE (kwOf X) (evE call (.idx a b))) :=
  pe_imp (pe_ix (ixR_ok hu) ha hb (ix_plain hs)) fun σ H Q ⟨env, W, M, d, M', re, wr, e, q⟩ => by
    simp only [evE, Option.bind_eq_some_iff, Option.map_eq_some_iff] at e
    obtain ⟨⟨d1, M1⟩, e1, ⟨d2, M2⟩, e2, d3, e3, e⟩ := e
    cases e
    exact two re wr e1 e2 fun W2 H2 v1 v2 x2 w2 r1 r2 => semIx_ok w2 r1 r2 e3 (q.ext x2)
def tyO (K : Kw) (ev : En → Mm → Option (List D × Mm)) : TO := fun σ H R => ∃ env W M ds M' o, RE K W H env σ ∧ WR K W M H ∧ ev env M = some (ds, M') ∧ optI ds = some o ∧ ∀ W' H', Ext W H W' H' → WR K W' M' H' → R o H'
theorem po_imp {l : Option Expr} {t t' : TO} (h : PO X l t) (hi : ∀ σ H Q, t' σ H Q → t σ H Q) : PO X l t' := ⟨fun pins s σ H Q I q => h.run pins s σ H Q I (hi σ H Q q)⟩
theorem po_nil : PO X none (tyO (kwOf X) (evEs call .nil)) := po_imp po_none fun σ H R ⟨env, W, M, ds, M', o, re, wr, e, eo, q⟩ => by
  simp only [evEs] at e
  cases e
  cases eo
  exact q W H wr.refl wr
theorem po_one (h : PE X x (tyE (kwOf X) (evE call a))) : PO X (some x) (tyO (kwOf X) (evEs call (.cons a .nil))) := po_imp (po_some h) fun σ H R ⟨env, W, M, ds, M', o, re, wr, e, eo, q⟩ => by
  simp only [evEs, Option.bind_eq_some_iff] at e
  obtain ⟨⟨d1, M1⟩, e1, ⟨d2, M2⟩, e2, e⟩ := e
  cases e2
  cases e
  cases d1 with
  | int i =>
    cases eo
    exact ⟨env, W, M, _, M1, re, wr, e1, fun W1 H1 v1 x1 w1 r1 => ⟨i, r1.int, q W1 H1 x1 w1⟩⟩
  | _ => simp [optI] at eo
theorem snd_sli {m : Bool} {lo hi : E} {l h : Option Expr} {p2 : Pos} (ha : PE X x (tyE (kwOf X) (evE call a))) (hl : PO X l (tyO (kwOf X) (evEs call lo))) (hh : PO X h (tyO (kwOf X) (evEs call hi))) :
    PE X (.Subscript x (.Slice l h none p2) pos) (tyE (kwOf X) (evE call (.sli m a lo hi))) :=
  pe_imp (pe_slice slR_ok ha hl hh) fun σ H Q ⟨env, W, M, d, M', re, wr, e, q⟩ => by
    simp only [evE, Option.bind_eq_some_iff] at e
    obtain ⟨⟨d1, M1⟩, e1, ⟨d2, M2⟩, e2, ⟨d3, M3⟩, e3, e⟩ := e
    have e' := e
    simp only [semSl, Option.bind_eq_bind, Option.bind_eq_some_iff] at e'
    obtain ⟨o2, eo2, o3, eo3, _⟩ := e'
    exact ⟨env, W, M, d1, M1, re, wr, e1, fun W1 H1 v1 x1 w1 r1 => ⟨env, W1, M1, d2, M2, o2, re.mono wr x1, w1, e2, eo2, fun W2 H2 x2 w2 =>
      ⟨env, W2, M2, d3, M3, o3, re.mono wr (x1.trans x2), w2, e3, eo3, fun W3 H3 x3 w3 => semSl_ok w3 (r1.mono w1 (x2.trans x3)) e eo2 eo3 (q.ext (x1.trans (x2.trans x3)))⟩⟩⟩

/-! ### calls -/
theorem snd_call {f : Nat} {xn : Str} {p : Pos} {l : List Expr} (c : Ck T call N raw sc k X) (h1 : T.fn[f]? = some xn) (h2 : gl sc xn = true) (h3 : (l.all fun e => !isStar e) = true) (h4 : l ≠ []) (ha : PA X l (tyA (kwOf X) (evEs call a))) :
    PE X (.Call (.Name xn p) l [] pos) (tyE (kwOf X) (evE call (.call f a))) := by
  obtain ⟨g1, g2, g3⟩ := c.gl h2
  obtain ⟨ps, fa, fd, hp, F, hm, hk, hb, _⟩ := c.g.fns f xn h1
  cases l with
  | nil => exact absurd rfl h4
  | cons e0 es =>
    simp only [List.all_cons, Bool.and_eq_true, Bool.not_eq_true'] at h3
    refine pe_imp (pe_call F c.room g1 hm hk hb .nil pass0 ha g2 (star_plain h3.1) (back_plain (by simpa using h3.2))) fun σ H Q ⟨env, W, M, d, M', re, wr, e, q⟩ => ?_
    simp only [evE, Option.bind_eq_some_iff] at e
    obtain ⟨⟨ds, M1⟩, e1, e⟩ := e
    refine ⟨env, W, M, ds, M1, re, wr, e1, fun W1 H1 vs x1 w1 r1 => ?_⟩
    obtain ⟨ps', hp', hl⟩ := c.g.np f ds M1 _ e
    rw [hp] at hp'; cases hp'
    exact ⟨by rw [List.append_nil, ← r1.length]; exact hl, W1, M1, ds, d, M', w1, by rw [List.append_nil]; exact r1, e, q.ext x1⟩
theorem snd_blt {b : Blt} {m : Bool} {xn : Str} {p : Pos} {l : List Expr} (c : Ck T call N raw sc k X) (hbs : b ≠ .sortset) (h1 : xn = blN b) (h2 : gl sc xn = true) (hb : if b = .gcd then T.gcd = xn else xn ∈ T.bl) (h3 : (l.all fun e => !isStar e) = true) (h4 : l ≠ []) (ha : PA X l (tyA (kwOf X) (evEs call a))) :
    PE X (.Call (.Name xn p) l [] pos) (tyE (kwOf X) (evE call (.blt b m a))) := by
  obtain ⟨g1, g2, g3⟩ := c.gl h2
  cases l with
  | nil => exact absurd rfl h4
  | cons e0 es =>
    simp only [List.all_cons, Bool.and_eq_true, Bool.not_eq_true'] at h3
    have he : starEach (e0 :: es) X.env = (false, eval e0 X.env) :: starEach es X.env := star_plain h3.1
    have hpl : (backTo pos (starEach es X.env)).any (·.1) = false := back_plain (by simpa using h3.2)
    have hr := blR_ok (X := X) c.calm c.units b
    have go : PE X (.Call (.Name xn p) (e0 :: es) [] pos) (tCB (blR (kwOf X) b) (tyA (kwOf X) (evEs call a))) := by
      cases b with
      | gcd =>
        simp only [if_true] at hb
        have e : xn = "gcd" := h1
        refine pe_callBfun hr g1 ?_ ha g2 he hpl
        rw [← hb]
        exact c.g.gcd (hb.trans e)
      | len => subst h1; exact pe_callB hr g1 (c.g.bls _ (by simpa using hb)) PySem.boot_len ha (by decide) g2 he hpl
      | abs => subst h1; exact pe_callB hr g1 (c.g.bls _ (by simpa using hb)) (by decide +kernel) ha (by decide) g2 he hpl
      | int => subst h1; exact pe_callTy hr g1 (c.g.bls _ (by simpa using hb)) (by decide +kernel) ha (by decide) g2 he hpl
      | all => subst h1; exact pe_callB hr g1 (c.g.bls _ (by simpa using hb)) (by decide +kernel) ha (by decide) g2 he hpl
      | any => subst h1; exact pe_callB hr g1 (c.g.bls _ (by simpa using hb)) (by decide +kernel) ha (by decide) g2 he hpl
      | sum => subst h1; exact pe_callB hr g1 (c.g.bls _ (by simpa using hb)) (by decide +kernel) ha (by decide) g2 he hpl
      | tuple => subst h1; exact pe_callTy hr g1 (c.g.bls _ (by simpa using hb)) (by decide +kernel) ha (by decide) g2 he hpl
      | list => subst h1; exact pe_callTy hr g1 (c.g.bls _ (by simpa using hb)) (by decide +kernel) ha (by decide) g2 he hpl
      | max2 => subst h1; exact pe_callB hr g1 (c.g.bls _ (by simpa using hb)) (by decide +kernel) ha (by decide) g2 he hpl
      | min2 => subst h1; exact pe_callB hr g1 (c.g.bls _ (by simpa using hb)) (by decide +kernel) ha (by decide) g2 he hpl
      | sortset => exact absurd rfl hbs
      | sorted => subst h1; exact pe_callB hr g1 (c.g.bls _ (by simpa using hb)) (by decide +kernel) ha (by decide) g2 he hpl
    refine pe_imp go fun σ H Q ⟨env, W, M, d, M', re, wr, e, q⟩ => ?_
    simp only [evE, Option.bind_eq_some_iff] at e
    obtain ⟨⟨ds, M1⟩, e1, e⟩ := e
    exact ⟨env, W, M, ds, M1, re, wr, e1, fun W1 H1 vs x1 w1 r1 => semB_ok hbs w1 r1 e (q.ext x1)⟩
end
end DL

set_option maxRecDepth 100000
namespace DL
open PySem PySem.Spec PyProof.Rows L2

/-! ### targets -/
def tlen : Tg → Nat
  | .cons _ r => tlen r + 1
  | _ => 0
mutual
def gOf (K : PySem.W.Frag) : Tg → TG
  | .nm i => gName i
  | .nil => gTup K 0 gNil
  | .cons t r => gTup K (tlen r + 1) (gCons (gOf K t) (gsOf K r))
def gsOf (K : PySem.W.Frag) : Tg → TGs
  | .cons t r => gCons (gOf K t) (gsOf K r)
  | _ => gNil
end
theorem asg_each {e : Expr} {es : List Expr} {env : Env} (h : isStar e = false) : assignEach (e :: es) env = (false, assign e env) :: assignEach es env := by
  cases e <;> first | rfl | (exact absurd h (by simp [isStar]))
section
variable {T : Tab} {call : CallF} {N : List Str} {raw sc : Scope} {k : Nat} {X : Cx}
theorem pg_all (c : Ck T call N raw sc k X) : ∀ t : Tg, (∀ e, chkT N raw t e = true → PG X e (gOf X.K t)) ∧ ∀ es, chkTs N raw t es = true → PGs X es (gsOf X.K t) ∧ (assignEach es X.env).length = tlen t ∧ (assignEach es X.env).findIdx? (·.1) = none
  | .nm i => by
    refine ⟨fun e h => ?_, fun es h => ?_⟩
    · cases e with
      | Name x pos =>
        simp only [chkT, Bool.and_eq_true, decide_eq_true_eq] at h
        have hl : raw.names.lookup x = some .local ∨ raw.names.lookup x = some .cell := by
          have := h.2
          unfold locl at this
          split at this
          · exact .inl (by assumption)
          · exact .inr (by assumption)
          · cases this
        have hL : Loc X.env.scope x := by
          rw [c.hsc]
          exact hl.imp (c.loc x) (c.cel x)
        refine pg_name (by rw [c.hN]; exact c.nd) (by rw [c.hN]; exact h.1) hL ?_
        rcases hl with hl | hl
        · right; rw [c.hsc]; exact c.loc x hl
        · exact .inl (c.fn x hl)
      | _ => simp [chkT] at h
    · cases es <;> simp [chkTs] at h
  | .nil => by
    refine ⟨fun e h => ?_, fun es h => ?_⟩
    · cases e with
      | Tuple l kk pos =>
        cases l with
        | nil => exact pg_tup c.calm pgs_nil rfl rfl
        | cons _ _ => simp [chkT] at h
      | _ => simp [chkT] at h
    · cases es with
      | nil => exact ⟨pgs_nil, rfl, rfl⟩
      | cons _ _ => simp [chkTs] at h
  | .cons t r => by
    obtain ⟨h1, _⟩ := pg_all c t
    obtain ⟨_, h2⟩ := pg_all c r
    have lst : ∀ e es, chkT N raw t e = true → chkTs N raw r es = true → isStar e = false → PGs X (e :: es) (gCons (gOf X.K t) (gsOf X.K r)) ∧ (assignEach (e :: es) X.env).length = tlen r + 1 ∧ (assignEach (e :: es) X.env).findIdx? (·.1) = none := fun e es ha hb hs => by
      obtain ⟨a1, a2, a3⟩ := h2 es hb
      have q := asg_each (es := es) (env := X.env) hs
      refine ⟨pgs_cons (h1 e ha) a1 (by rw [q]; rfl), by rw [q, List.length_cons, a2], ?_⟩
      rw [q, List.findIdx?_cons]
      simp [a3]
    refine ⟨fun e h => ?_, fun es h => ?_⟩
    · cases e with
      | Tuple l kk pos =>
        cases l with
        | nil => simp [chkT] at h
        | cons e es =>
          simp only [chkT, Bool.and_eq_true, Bool.not_eq_true'] at h
          obtain ⟨a1, a2, a3⟩ := lst e es h.1.1 h.1.2 h.2
          exact pg_tup c.calm a1 a2 a3
      | _ => simp [chkT] at h
    · cases es with
      | nil => simp [chkTs] at h
      | cons e es =>
        simp only [chkTs, Bool.and_eq_true, Bool.not_eq_true'] at h
        exact lst e es h.1.1 h.1.2 h.2
end
section
variable {K : Kw} {W : Wd} {H : Hp} {M : Mm}
/-- a chain of targets ends -/
def ends : Tg → Bool
  | .nm _ => false
  | .nil => true
  | .cons _ r => ends r
theorem ends_of {N : List Str} {raw : Scope} : ∀ {t : Tg} {es : List Expr}, chkTs N raw t es = true → ends t = true
  | .nm _, es, h => by cases es <;> simp [chkTs] at h
  | .nil, _, _ => rfl
  | .cons t r, es, h => by
    cases es with
    | nil => simp [chkTs] at h
    | cons e es =>
      simp only [chkTs, Bool.and_eq_true] at h
      exact ends_of (t := r) h.1.2
def good : Tg → Bool
  | .nm _ => true
  | .nil => true
  | .cons t r => good t && ends r && good r
theorem good_of {N : List Str} {raw : Scope} : ∀ {t : Tg}, (∀ {e : Expr}, chkT N raw t e = true → good t = true) ∧ ∀ {es : List Expr}, chkTs N raw t es = true → good t = true
  | .nm _ => ⟨fun _ => rfl, fun _ => rfl⟩
  | .nil => ⟨fun _ => rfl, fun _ => rfl⟩
  | .cons t r => by
    obtain ⟨a1, _⟩ := good_of (N := N) (raw := raw) (t := t)
    obtain ⟨_, a2⟩ := good_of (N := N) (raw := raw) (t := r)
    refine ⟨fun {e} h => ?_, fun {es} h => ?_⟩
    · cases e with
      | Tuple l kk pos =>
        cases l with
        | nil => simp [chkT] at h
        | cons e es =>
          simp only [chkT, Bool.and_eq_true] at h
          simp [good, a1 h.1.1, a2 h.1.2, ends_of h.1.2]
      | _ => simp [chkT] at h
    · cases es with
      | nil => simp [chkTs] at h
      | cons e es =>
        simp only [chkTs, Bool.and_eq_true] at h
        simp [good, a1 h.1.1, a2 h.1.2, ends_of h.1.2]
theorem wipe_set {σ : L2.St} {i : Nat} {v : V} : ∀ {own : List Nat}, i ∈ own → L2.wipe (σ.set i (some v)) own = L2.wipe σ own := by
  have comm : ∀ (own : List Nat) (σ : L2.St) (i : Nat) (o : Option V), i ∉ own → L2.wipe (σ.set i o) own = (L2.wipe σ own).set i o := by
    intro own
    induction own with
    | nil => intro _ _ _ _; rfl
    | cons j own ih =>
      intro σ i o h
      show (L2.wipe (σ.set i o) own).set j none = ((L2.wipe σ own).set j none).set i o
      rw [ih σ i o fun m => h (List.mem_cons_of_mem _ m)]
      exact List.set_comm _ _ fun e => h (by rw [e]; exact List.mem_cons_self)
  intro own
  induction own with
  | nil => intro h; simp at h
  | cons j own ih =>
    intro h
    show (L2.wipe (σ.set i (some v)) own).set j none = (L2.wipe σ own).set j none
    by_cases hi : i ∈ own
    · rw [ih hi]
    · have e : i = j := by
        rcases List.mem_cons.mp h with e | e
        · exact e
        · exact absurd e hi
      subst e
      rw [comm own σ i (some v) hi, List.set_set]
theorem asg_all : ∀ t : Tg, good t = true →
    (∀ (d : D) (env env' : En) (v : V) (σ : L2.St) (Q : L2.St → Hp → Prop), asg t d env = some env' → RE K W H env σ → DR K W H d v → (∀ σ', RE K W H env' σ' → (∀ own, tgIn t own = true → L2.wipe σ' own = L2.wipe σ own) → Q σ' H) → gOf K.k t v σ H Q) ∧
    (ends t = true → ∀ (ds : List D) (env env' : En) (vs : List V) (σ : L2.St) (Q : L2.St → Hp → Prop), asg t (.tup ds) env = some env' → RE K W H env σ → DRs K W H ds vs → (∀ σ', RE K W H env' σ' → (∀ own, tgIn t own = true → L2.wipe σ' own = L2.wipe σ own) → Q σ' H) →
      vs.length = tlen t ∧ gsOf K.k t vs σ H Q)
  | .nm i, _ => by
    refine ⟨fun d env env' v σ Q e re r q => ?_, fun h => by simp [ends] at h⟩
    simp only [asg] at e
    cases e
    refine q _ (re.set r i) fun own h => wipe_set ?_
    simpa [tgIn] using h
  | .nil, _ => by
    refine ⟨fun d env env' v σ Q e re r q => ?_, fun _ ds env env' vs σ Q e re r q => ?_⟩
    · unfold asg at e
      split at e
      · rename_i h; cases h
      · cases e
        obtain ⟨a, xs, rfl, h1, h2⟩ := r.tup
        have hx : xs = [] := by simpa [DRs] using h2
        subst hx
        exact ⟨a, [], rfl, h1.sqt, rfl, rfl, q σ re fun _ _ => rfl⟩
      · rename_i h; cases h
      · cases e
    · cases ds with
      | nil =>
        simp only [asg] at e
        cases e
        have hx : vs = [] := by simpa [DRs] using r
        subst hx
        exact ⟨rfl, rfl, q σ re fun _ _ => rfl⟩
      | cons _ _ => simp [asg] at e
  | .cons t r, hg => by
    simp only [good, Bool.and_eq_true] at hg
    obtain ⟨a1, _⟩ := asg_all t hg.1.1
    obtain ⟨_, a2⟩ := asg_all r hg.2
    have lst : ∀ (ds : List D) (env env' : En) (vs : List V) (σ : L2.St) (Q : L2.St → Hp → Prop), asg (.cons t r) (.tup ds) env = some env' → RE K W H env σ → DRs K W H ds vs → (∀ σ', RE K W H env' σ' → (∀ own, tgIn (.cons t r) own = true → L2.wipe σ' own = L2.wipe σ own) → Q σ' H) →
        vs.length = tlen r + 1 ∧ gCons (gOf K.k t) (gsOf K.k r) vs σ H Q := fun ds env env' vs σ Q e re rd q => by
      cases ds with
      | nil => simp [asg] at e
      | cons d ds =>
        simp only [asg, Option.bind_eq_some_iff] at e
        obtain ⟨env1, e1, e2⟩ := e
        simp only [DRs] at rd
        obtain ⟨v, us, rfl, r1, r2⟩ := rd
        have hl : us.length = tlen r := by
          -- by running the rest anywhere
          have := a2 hg.1.2 ds env1 env' us (σ := (env1.map fun _ => none)) (fun _ _ => True)
          have hlen : ∀ (t : Tg) (ds : List D) (env env' : En), ends t = true → asg t (.tup ds) env = some env' → ds.length = tlen t := by
            intro t
            induction t with
            | nm i => intro ds env env' h; simp [ends] at h
            | nil =>
              intro ds env env' _ h
              cases ds with
              | nil => rfl
              | cons _ _ => simp [asg] at h
            | cons t r _ ih =>
              intro ds env env' h e
              cases ds with
              | nil => simp [asg] at e
              | cons d ds =>
                simp only [asg, Option.bind_eq_some_iff] at e
                obtain ⟨env1, _, e2⟩ := e
                simp only [List.length_cons, tlen]
                rw [ih ds env1 env' (by simpa [ends] using h) e2]
          rw [← r2.length]
          exact hlen r ds env1 env' hg.1.2 e2
        refine ⟨by simp [hl], v, us, rfl, ?_⟩
        refine a1 d env env1 v σ _ e1 re r1 fun σ1 re1 hw1 => ?_
        exact (a2 hg.1.2 ds env1 env' us σ1 Q e2 re1 r2 fun σ2 re2 hw2 => q σ2 re2 fun own h => by
          simp only [tgIn, Bool.and_eq_true] at h
          rw [hw2 own h.2, hw1 own h.1]).2
    refine ⟨fun d env env' v σ Q e re rd q => ?_, fun _ ds env env' vs σ Q e re rd q => lst ds env env' vs σ Q e re rd q⟩
    cases d with
    | tup ds =>
      obtain ⟨a, xs, rfl, h1, h2⟩ := rd.tup
      obtain ⟨b1, b2⟩ := lst ds env env' xs σ Q e re h2 q
      exact ⟨a, xs, rfl, h1.sqt, b1, b2⟩
    | _ => simp [asg] at e
end
end DL

set_option maxRecDepth 100000
namespace DL
open PySem PySem.Spec PyProof.Rows L2

section
variable {K : Kw} {W : Wd} {H : Hp} {M : Mm}
/-! ### iterators -/
theorem SqL.uniq {X : Cx} : True := trivial
/-- what a list that stands at a gives -/
theorem itl_ok {a : Addr} {I : ItD} (f : ∀ W' H' M', ExtW W H W' H' → WR K W' M' H' → chks I.src M' = true → ∃ xs, SqL K.k H' a xs ∧ DRs K W' H' I.items xs) : ItOk K (Itl K.k a) I W H := by
  intro W' H' M' x w c
  obtain ⟨xs, h1, h2⟩ := f W' H' M' x w c
  refine ⟨fun i d e => ?_, fun i h => ⟨xs, h1, by rw [← h2.length]; exact h⟩⟩
  obtain ⟨v, e1, r⟩ := h2.get e
  refine ⟨⟨xs, v, h1, e1⟩, fun y H'' ⟨e2, e3⟩ => ?_⟩
  subst e2
  have e4 := e3 xs h1
  rw [e1] at e4; cases e4
  exact ⟨w.refl, w, r⟩
theorem itt_ok {a : Addr} {I : ItD} (f : ∀ W' H' M', ExtW W H W' H' → WR K W' M' H' → chks I.src M' = true → ∃ xs, SqT K.k H' a xs ∧ DRs K W' H' I.items xs) : ItOk K (Itt K.k a) I W H := by
  intro W' H' M' x w c
  obtain ⟨xs, h1, h2⟩ := f W' H' M' x w c
  refine ⟨fun i d e => ?_, fun i h => ⟨xs, h1, by rw [← h2.length]; exact h⟩⟩
  obtain ⟨v, e1, r⟩ := h2.get e
  refine ⟨⟨xs, v, h1, e1⟩, fun y H'' ⟨e2, e3⟩ => ?_⟩
  subst e2
  have e4 := e3 xs h1
  rw [e1] at e4; cases e4
  exact ⟨w.refl, w, r⟩
/-- a list to be walked -/
theorem itL_list {d : D} {I : ItD} {v : V} (w : WR K W M H) (r : DR K W H d v) (e : itL M d = some I) :
    ∃ a, v = .ref a ∧ (∃ xs, SqL K.k H a xs) ∧ ∀ W' H' M', ExtW W H W' H' → WR K W' M' H' → chks I.src M' = true → ∃ xs, SqL K.k H' a xs ∧ DRs K W' H' I.items xs := by
  cases d with
  | ref n =>
    simp only [itL] at e
    split at e
    · rename_i ds hd
      cases e
      obtain ⟨a, rfl, h1⟩ := r.ref
      obtain ⟨ys, h2, _⟩ := w.at_ n a _ h1 hd
      refine ⟨a, rfl, ⟨ys, .of h2⟩, fun W' H' M' x w' c => ?_⟩
      have c' : M'[n]? = some (.lst ds) := by simpa [chks] using c
      obtain ⟨xs, h3, h4⟩ := w'.at_ n a _ (x.id h1) c'
      exact ⟨xs, .of h3, h4⟩
    · cases e
  | lst ds =>
    cases e
    obtain ⟨a, xs, rfl, h1, h2, h3, h4⟩ := r.lst
    exact ⟨a, rfl, ⟨xs, h1.sql⟩, fun W' H' M' x w' c => ⟨xs, (x.lst h1 h2 h3).1.sql, h4.monoW w x⟩⟩
  | fz ds =>
    cases e
    obtain ⟨a, xs, rfl, h1, h4⟩ := r.fz
    exact ⟨a, rfl, ⟨xs, h1.sql⟩, fun W' H' M' x w' c => ⟨xs, (x.fz w h1).sql, h4.monoW w x⟩⟩
  | _ => simp [itL] at e
end
def iSeq (K : PySem.W.Frag) (te : TE) : TI := fun σ H R => te σ H fun v H1 => ∃ a, v = .ref a ∧ (((∃ xs, SqL K H1 a xs) ∧ R (Itl K a) H1) ∨ ((∃ xs, SqT K H1 a xs) ∧ R (Itt K a) H1))
section
variable {X : Cx} {tg : Expr}
theorem pi_seq {l : Expr} {te : TE} (hl : PE X l te) : PI X tg l (iSeq X.K te) := by
  refine ⟨fun pins s σ H R I hyp => ?_⟩
  refine thn (hl.run pins s σ H _ I hyp) fun vl sm ⟨x, Hm, Im, rm, qm⟩ => ?_
  obtain ⟨a, eqb, q⟩ := qm
  subst eqb
  rcases q with ⟨hex, q⟩ | ⟨hex, q⟩
  · cases rm
    obtain ⟨xls, hxs⟩ := hex
    obtain ⟨itm, rv, p, hsz⟩ := Im.list hxs
    refine wpAny_pyIter_list p.isList ?_
    refine ⟨sm.heap.objs.size, [sm.heap.objs.size], _, _, Hm, rfl, Im.kept (t' := sm.toks) fun b o eqb => Heap.get?_push_of_some _ eqb, turn_list a _, ⟨_, Heap.get?_push_size _ rfl, rfl, rfl⟩, fun b hbm => ?_, q⟩
    have eqb : b = sm.heap.objs.size := by simpa using hbm
    subst eqb
    exact Im.fpOk (Nat.le_refl _) (Im.hok.fresh (Nat.le_refl _))
  · cases rm
    obtain ⟨xls, hxs⟩ := hex
    obtain ⟨itm, rv, p, hsz⟩ := Im.tuple hxs
    refine wpAny_pyIter_tuple (show sm.heap.IsTuple a itm.toArray from p) ?_
    refine ⟨sm.heap.objs.size, [sm.heap.objs.size], _, _, Hm, rfl, Im.kept (t' := sm.toks) fun b o eqb => Heap.get?_push_of_some _ eqb, turn_tuple a _, ⟨_, Heap.get?_push_size _ rfl, rfl, rfl⟩, fun b hbm => ?_, q⟩
    have eqb : b = sm.heap.objs.size := by simpa using hbm
    subst eqb
    exact Im.fpOk (Nat.le_refl _) (Im.hok.fresh (Nat.le_refl _))
variable {T : Tab} {call : CallF} {N : List Str} {raw sc : Scope} {k : Nat} {a b cE : E} {x y z : Expr} {pos : Pos}
theorem snd_iseq (hs : isSetE x = false) (ha : PE X x (tyE (kwOf X) (evE call a))) : PI X tg x (tyI (kwOf X) (evIt call (.iseq a))) :=
  pi_imp (pi_seq ha) fun σ H R ⟨env, W, M, I, M', re, wr, e, q⟩ => by
    simp only [evIt, Option.bind_eq_some_iff, Option.map_eq_some_iff] at e
    obtain ⟨⟨d1, Ma⟩, e1, i, e2, e⟩ := e
    cases e
    refine ⟨env, W, M, d1, Ma, re, wr, e1, fun W1 H1 v1 x1 w1 r1 => ?_⟩
    cases d1 with
    | tup ds =>
      cases e2
      obtain ⟨p, xs, rfl, h1, h2⟩ := r1.tup
      exact ⟨p, rfl, .inr ⟨⟨xs, h1.sqt⟩, q W1 H1 _ x1 w1 (itt_ok fun W' H' M' x' w' c => ⟨xs, (x'.tup w1 h1).sqt, h2.monoW w1 x'⟩)⟩⟩
    | ref n =>
      obtain ⟨p, h0, h1, h2⟩ := itL_list w1 r1 (show itL Ma (.ref n) = some I from e2)
      exact ⟨p, h0, .inl ⟨h1, q W1 H1 _ x1 w1 (itl_ok h2)⟩⟩
    | lst n =>
      obtain ⟨p, h0, h1, h2⟩ := itL_list w1 r1 (show itL Ma (.lst n) = some I from e2)
      exact ⟨p, h0, .inl ⟨h1, q W1 H1 _ x1 w1 (itl_ok h2)⟩⟩
    | fz n =>
      obtain ⟨p, h0, h1, h2⟩ := itL_list w1 r1 (show itL Ma (.fz n) = some I from e2)
      exact ⟨p, h0, .inl ⟨h1, q W1 H1 _ x1 w1 (itl_ok h2)⟩⟩
    | _ => simp [itOf] at e2
theorem in62_of {i : Int} (h : in62 i = true) : -(2 ^ 62) ≤ i ∧ i < 2 ^ 62 := by simpa [in62] using h
theorem itr_ok {K : Kw} {W : Wd} {H : Hp} (lo : Int) (n : Nat) : ItOk K (Itr lo n) ⟨[], rangeD lo n⟩ W H := by
  intro W' H' M' x w c
  refine ⟨fun i d e => ?_, fun i h => by
    have h' : n ≤ i := by simpa [rangeD] using h
    exact h'⟩
  have hi : i < n := by
    have := (List.getElem?_eq_some_iff.mp e).1
    simpa [rangeD] using this
  refine ⟨hi, fun y H'' ⟨e2, e3⟩ => ?_⟩
  subst e2 e3
  have e4 : d = .int (lo + (i : Nat)) := by
    simp only [rangeD, List.getElem?_map, List.getElem?_range hi, Option.map_some, Option.some.injEq] at e
    exact e.symm
  subst e4
  exact ⟨w.refl, w, dr_int _⟩
theorem itc_ok {K : Kw} {W : Wd} {H : Hp} (lo c : Int) (n : Nat) : ItOk K (Itc lo c n) ⟨[], rangeC lo c n⟩ W H := by
  intro W' H' M' x w _
  refine ⟨fun i d e => ?_, fun i h => by
    have h' : n ≤ i := by simpa [rangeC] using h
    exact h'⟩
  have hi : i < n := by
    have := (List.getElem?_eq_some_iff.mp e).1
    simpa [rangeC] using this
  refine ⟨hi, fun y H'' ⟨e2, e3⟩ => ?_⟩
  subst e2 e3
  have e4 : d = .int (lo + (i : Nat) * c) := by
    simp only [rangeC, List.getElem?_map, List.getElem?_range hi, Option.map_some, Option.some.injEq] at e
    exact e.symm
  subst e4
  exact ⟨w.refl, w, dr_int _⟩
theorem star1 {x : Expr} {env : Env} (h : isStar x = false) : starEach [x] env = [(false, eval x env)] := star_plain h
theorem snd_range1 {f : Str} {p : Pos} (c : Ck T call N raw sc k X) (h1 : f = "range") (h2 : DL.gl sc f = true) (h3 : f ∈ T.bl) (hs : isStar x = false) (ha : PE X x (tyE (kwOf X) (evE call a))) :
    PI X tg (.Call (.Name f p) [x] [] pos) (tyI (kwOf X) (evIt call (.irange1 a))) := by
  subst h1
  refine pi_imp (pi_range1 (c.gl h2).1 (c.g.bls _ h3) (pa_cons ha pa_nil (star_plain hs)) (star1 hs)) fun σ H R ⟨env, W, M, I, M', re, wr, e, q⟩ => ?_
  simp only [evIt, Option.bind_eq_some_iff] at e
  obtain ⟨⟨d1, Ma⟩, e1, e⟩ := e
  cases d1 with
  | int j =>
    simp only at e
    cases hj : in62 j with
    | true =>
      rw [hj] at e
      simp only [if_true, Option.some.injEq, Prod.mk.injEq] at e
      obtain ⟨e2, e3⟩ := e
      subst e2 e3
      obtain ⟨b1, b2⟩ := in62_of hj
      exact ⟨env, W, M, _, _, re, wr, e1, fun W1 H1 v1 x1 w1 r1 => ⟨j, by rw [r1.int], b1, b2, q W1 H1 _ x1 w1 (itr_ok 0 _)⟩⟩
    | false => rw [hj] at e; simp at e
  | _ => simp at e
theorem snd_range2 {f : Str} {p : Pos} (c : Ck T call N raw sc k X) (h1 : f = "range") (h2 : DL.gl sc f = true) (h3 : f ∈ T.bl) (hs : isStar x = false) (hs2 : isStar y = false) (ha : PE X x (tyE (kwOf X) (evE call a))) (hb : PE X y (tyE (kwOf X) (evE call b))) :
    PI X tg (.Call (.Name f p) [x, y] [] pos) (tyI (kwOf X) (evIt call (.irange2 a b))) := by
  subst h1
  refine pi_imp (pi_range2 (c.gl h2).1 (c.g.bls _ h3) (pa_cons ha (pa_cons hb pa_nil (star_plain hs2)) (star_plain hs)) (by rw [star_plain hs, star_plain hs2]; rfl) (star1 hs2)) fun σ H R ⟨env, W, M, I, M', re, wr, e, q⟩ => ?_
  simp only [evIt, Option.bind_eq_some_iff] at e
  obtain ⟨⟨d1, Ma⟩, e1, ⟨d2, Mb⟩, e2, e⟩ := e
  simp only at e
  split at e
  · rename_i i j
    split at e
    · rename_i hj
      cases e
      simp only [Bool.and_eq_true] at hj
      obtain ⟨b1, b2⟩ := in62_of hj.1
      obtain ⟨b3, b4⟩ := in62_of hj.2
      exact two re wr e1 e2 fun W2 H2 v1 v2 x2 w2 r1 r2 => ⟨_, _, by rw [r1.int, r2.int], ⟨b1, b2, b3, b4⟩, q W2 H2 _ x2 w2 (itr_ok _ _)⟩
    · cases e
  · cases e
theorem snd_range3 {f : Str} {p : Pos} (c : Ck T call N raw sc k X) (h1 : f = "range") (h2 : DL.gl sc f = true) (h3 : f ∈ T.bl) (hs : isStar x = false) (hs2 : isStar y = false) (hs3 : isStar z = false) (ha : PE X x (tyE (kwOf X) (evE call a))) (hb : PE X y (tyE (kwOf X) (evE call b)))
    (hc : PE X z (tyE (kwOf X) (evE call cE))) : PI X tg (.Call (.Name f p) [x, y, z] [] pos) (tyI (kwOf X) (evIt call (.irange3 a b cE))) := by
  subst h1
  refine pi_imp (pi_range3 (c.gl h2).1 (c.g.bls _ h3) (pa_cons ha (pa_cons hb (pa_cons hc pa_nil (star_plain hs3)) (star_plain hs2)) (star_plain hs)) (star_plain hs) (back_plain (by simp [hs2, hs3]))) fun σ H R ⟨env, W, M, I, M', re, wr, e, q⟩ => ?_
  simp only [evIt, Option.bind_eq_some_iff] at e
  obtain ⟨⟨d1, Ma⟩, e1, ⟨d2, Mb⟩, e2, ⟨d3, Mc⟩, e3, e⟩ := e
  simp only at e
  split at e
  · rename_i i j k'
    split at e
    · rename_i hj
      cases e
      simp only [Bool.and_eq_true, decide_eq_true_eq] at hj
      obtain ⟨⟨b1, b2⟩, b3⟩ := hj
      subst b3
      obtain ⟨a1, a2⟩ := in62_of b1
      obtain ⟨a3, a4⟩ := in62_of b2
      refine ⟨env, W, M, _, Ma, re, wr, e1, fun W1 H1 v1 x1 w1 r1 => ⟨env, W1, Ma, _, Mb, re.mono wr x1, w1, e2, fun W2 H2 v2 x2 w2 r2 => ⟨env, W2, Mb, _, _, re.mono wr (x1.trans x2), w2, e3, fun W3 H3 v3 x3 w3 r3 => ?_⟩⟩⟩
      have e4 := r1.int; have e5 := r2.int; have e6 := r3.int
      subst e4 e5 e6
      exact ⟨_, _, -1, _, rfl, RgC.neg a1 a2 a3 a4, q W3 H3 _ (x1.trans (x2.trans x3)) w3 (itc_ok _ _ _)⟩
    · cases e
  · cases e
theorem enum_get : ∀ {ds : List D} {n i : Nat} {d : D}, (enumD n ds)[i]? = some d → ∃ x, ds[i]? = some x ∧ d = .tup [.int ((n + i : Nat) : Int), x]
  | [], _, _, _, e => by simp [enumD] at e
  | x :: ds, n, 0, d, e => by simp [enumD] at e; exact ⟨x, rfl, by rw [← e]; simp⟩
  | x :: ds, n, i + 1, d, e => by
    simp only [enumD, List.getElem?_cons_succ] at e
    obtain ⟨y, h1, h2⟩ := enum_get e
    exact ⟨y, by simpa using h1, by rw [h2]; congr 3; omega⟩
theorem enum_len : ∀ (ds : List D) (n : Nat), (enumD n ds).length = ds.length
  | [], _ => rfl
  | _ :: ds, n => by simp [enumD, enum_len ds]
theorem ite_ok {K : Kw} {W : Wd} {H : Hp} {a : Addr} {I : ItD} (f : ∀ W' H' M', ExtW W H W' H' → WR K W' M' H' → chks I.src M' = true → ∃ xs, SqL K.k H' a xs ∧ DRs K W' H' I.items xs) :
    ItOk K (Ite K.k a) ⟨I.src, enumD 0 I.items⟩ W H := by
  intro W' H' M' x w c
  obtain ⟨xs, h1, h2⟩ := f W' H' M' x w c
  refine ⟨fun i d e => ?_, fun i h => ⟨xs, h1, by rw [← h2.length]; rw [enum_len] at h; exact h⟩⟩
  obtain ⟨y, e1, e2⟩ := enum_get e
  obtain ⟨v, e3, r⟩ := h2.get e1
  refine ⟨⟨xs, v, h1, e3⟩, fun z H'' ⟨P, u, e4, e5, e6, e7⟩ => ?_⟩
  subst e4 e6 e2
  have e8 := e7 xs h1
  rw [e3] at e8; cases e8
  refine ⟨ext_new w e5, w.new e5, dr_tup (.inl upd_same) ?_⟩
  refine .cons (by simp only [Nat.zero_add]; exact dr_int _) (.one (r.mono w (ext_new w e5)))
theorem snd_enum {f : Str} {p tpos : Pos} {elts : List Expr} {kk : Nat} (c : Ck T call N raw sc k X) (h1 : f = "enumerate") (h2 : DL.gl sc f = true) (h3 : f ∈ T.bl) (hs : isStar x = false) (ha : PE X x (tyE (kwOf X) (evE call a))) :
    PI X (.Tuple elts kk tpos) (.Call (.Name f p) [x] [] pos) (tyI (kwOf X) (evIt call (.ienum a))) := by
  subst h1
  refine pi_imp (pi_enum (c.gl h2).1 (c.g.bls _ h3) (pa_cons ha pa_nil (star_plain hs)) (star1 hs)) fun σ H R ⟨env, W, M, I, M', re, wr, e, q⟩ => ?_
  simp only [evIt, Option.bind_eq_some_iff, Option.map_eq_some_iff] at e
  obtain ⟨⟨d1, Ma⟩, e1, i, e2, e⟩ := e
  cases e
  refine ⟨env, W, M, d1, Ma, re, wr, e1, fun W1 H1 v1 x1 w1 r1 => ?_⟩
  obtain ⟨p', h0, ⟨xs, h4⟩, h5⟩ := itL_list w1 r1 e2
  exact ⟨p', xs, by rw [h0], h4, q W1 H1 _ x1 w1 (ite_ok h5)⟩
theorem zip_get : ∀ {as bs : List D} {i : Nat} {d : D}, (zipD as bs)[i]? = some d → ∃ x y, as[i]? = some x ∧ bs[i]? = some y ∧ d = .tup [x, y]
  | [], _, _, _, e => by simp [zipD] at e
  | _ :: _, [], _, _, e => by simp [zipD] at e
  | x :: as, y :: bs, 0, d, e => by simp [zipD] at e; exact ⟨x, y, rfl, rfl, e.symm⟩
  | x :: as, y :: bs, i + 1, d, e => by
    simp only [zipD, List.getElem?_cons_succ] at e
    obtain ⟨u, v, h1, h2, h3⟩ := zip_get e
    exact ⟨u, v, by simpa using h1, by simpa using h2, h3⟩
theorem zip_len : ∀ (as bs : List D) (i : Nat), (zipD as bs).length ≤ i → as.length ≤ i ∨ bs.length ≤ i
  | [], _, _, _ => .inl (Nat.zero_le _)
  | _ :: _, [], _, _ => .inr (Nat.zero_le _)
  | x :: as, y :: bs, 0, h => by simp [zipD] at h
  | x :: as, y :: bs, i + 1, h => by
    simp only [zipD, List.length_cons, Nat.add_le_add_iff_right] at h
    rcases zip_len as bs i h with h | h
    · exact .inl (by simpa using h)
    · exact .inr (by simpa using h)
theorem chks_app {s t : List (Nat × List D)} {M : Mm} (h : chks (s ++ t) M = true) : chks s M = true ∧ chks t M = true := by
  simpa [chks] using h
theorem itz_ok {K : Kw} {W : Wd} {H : Hp} {a b : Addr} {I J : ItD} (f : ∀ W' H' M', ExtW W H W' H' → WR K W' M' H' → chks I.src M' = true → ∃ xs, SqL K.k H' a xs ∧ DRs K W' H' I.items xs)
    (g : ∀ W' H' M', ExtW W H W' H' → WR K W' M' H' → chks J.src M' = true → ∃ xs, SqL K.k H' b xs ∧ DRs K W' H' J.items xs) : ItOk K (Itz K.k a b) ⟨I.src ++ J.src, zipD I.items J.items⟩ W H := by
  intro W' H' M' x w c
  obtain ⟨c1, c2⟩ := chks_app c
  obtain ⟨xs, h1, h2⟩ := f W' H' M' x w c1
  obtain ⟨ys, h3, h4⟩ := g W' H' M' x w c2
  refine ⟨fun i d e => ?_, fun i h => ⟨xs, ys, h1, h3, ?_⟩⟩
  · obtain ⟨u, v, e1, e2, e3⟩ := zip_get e
    obtain ⟨p, e4, r1⟩ := h2.get e1
    obtain ⟨q, e5, r2⟩ := h4.get e2
    refine ⟨⟨xs, ys, p, q, h1, h3, e4, e5⟩, fun z H'' ⟨P, x1, y1, e6, e7, e8, e9, e10⟩ => ?_⟩
    subst e6 e8 e3
    have e11 := e9 xs h1
    have e12 := e10 ys h3
    rw [e4] at e11; cases e11
    rw [e5] at e12; cases e12
    exact ⟨ext_new w e7, w.new e7, dr_tup (.inl upd_same) (.cons (r1.mono w (ext_new w e7)) (.one (r2.mono w (ext_new w e7))))⟩
  · rw [← h2.length, ← h4.length]
    exact zip_len _ _ i h
theorem snd_zip {f : Str} {p tpos : Pos} {elts : List Expr} {kk : Nat} (c : Ck T call N raw sc k X) (h1 : f = "zip") (h2 : DL.gl sc f = true) (h3 : f ∈ T.bl) (hs : isStar x = false) (hs2 : isStar y = false) (ha : PE X x (tyE (kwOf X) (evE call a))) (hb : PE X y (tyE (kwOf X) (evE call b))) :
    PI X (.Tuple elts kk tpos) (.Call (.Name f p) [x, y] [] pos) (tyI (kwOf X) (evIt call (.izip a b))) := by
  subst h1
  refine pi_imp (pi_zip (c.gl h2).1 (c.g.bls _ h3) (pa_cons ha (pa_cons hb pa_nil (star_plain hs2)) (star_plain hs)) (star_plain hs) (back_plain (by simp [hs2]))) fun σ H R ⟨env, W, M, I, M', re, wr, e, q⟩ => ?_
  simp only [evIt, Option.bind_eq_some_iff, Option.map_eq_some_iff] at e
  obtain ⟨⟨d1, Ma⟩, e1, ⟨d2, Mb⟩, e2, i, e3, j, e4, e⟩ := e
  cases e
  refine two re wr e1 e2 fun W2 H2 v1 v2 x2 w2 r1 r2 => ?_
  obtain ⟨p1, h0, ⟨xs, h4⟩, h5⟩ := itL_list w2 r1 e3
  obtain ⟨p2, h6, ⟨ys, h7⟩, h8⟩ := itL_list w2 r2 e4
  exact ⟨p1, p2, xs, ys, by rw [h0, h6], h4, h7, q W2 H2 _ x2 w2 (itz_ok h5 h8)⟩
end
end DL

set_option maxRecDepth 100000
namespace DL
open PySem PySem.Spec PyProof.Rows L2

section
variable {K : Kw} {W W1 : Wd} {H H1 : Hp} {M M1 : Mm}
theorem DRs.step {W' : Wd} {H' : Hp} (st : ∀ d v, DR K W H d v → DR K W' H' d v) : ∀ {ds : List D} {xs : List V}, DRs K W H ds xs → DRs K W' H' ds xs
  | [], _, r => by simp only [DRs] at r ⊢; exact r
  | d :: ds, _, r => by
    simp only [DRs] at r
    obtain ⟨v, us, rfl, r1, r2⟩ := r
    exact .cons (st _ _ r1) (DRs.step st r2)
theorem MR.step {W' : Wd} {H' : Hp} {a : Addr} {o : MO} (e : H' a = H a) (st : ∀ d v, DR K W H d v → DR K W' H' d v) (q : MR K W H a o) : MR K W' H' a o := by
  cases o with
  | lst ds =>
    obtain ⟨zs, e3, r⟩ := q
    exact ⟨zs, e.trans e3, r.step st⟩
  | dic kvs =>
    obtain ⟨xs, e3, r⟩ := q
    exact ⟨xs, e.trans e3, L2.Paired.mapP r fun _ _ z => ⟨z.1, st _ _ z.2.1, let ⟨u, h1, h2⟩ := z.2.2; ⟨u, st _ _ h1, h2⟩⟩⟩
/-- what a comprehension fills is hidden -/
theorem hide (w : WR K W M H) {p : Addr} {xs : List V} (h : H p = none) :
    WR K ⟨W.ids, p :: W.hid⟩ M (upd H p (.lst xs)) ∧ Ext W H ⟨W.ids, p :: W.hid⟩ (upd H p (.lst xs)) := by
  have nm : ∀ a, a ∈ W.ids → a ≠ p := fun a m z => by
    obtain ⟨o, e⟩ := w.mem m
    rw [z, h] at e; cases e
  have x : Ext W H ⟨W.ids, p :: W.hid⟩ (upd H p (.lst xs)) := by
    refine ⟨fun a m => List.mem_cons_of_mem _ m, fun a m => ?_, fun a m n => ?_, fun a u e _ => by rw [upd_ne (ne_of_none e h)]; exact e, fun _ m => .inl m, [], by simp⟩
    · rcases List.mem_cons.mp m with e | m
      · right; rw [e]; exact h
      · exact .inl m
    · rcases List.mem_cons.mp m with e | m
      · exact nm a n e
      · exact w.dj a n m
  refine ⟨⟨w.len, w.nd, fun a n m => x.dj a m n, fun n a u e1 e2 => ?_, fun a m => ?_⟩, x⟩
  · obtain ⟨q, hq⟩ := w.mem (List.mem_of_getElem? e1)
    exact MR.mono w x (upd_ne (ne_of_none hq h)) (w.at_ n a u e1 e2)
  · rcases List.mem_cons.mp m with e | m
    · rw [e]; exact ⟨_, upd_same⟩
    · obtain ⟨q, hq⟩ := w.hs a m
      exact ⟨q, by rw [upd_ne (ne_of_none hq h)]; exact hq⟩
/-- the hidden list filled -/
theorem fill (w : WR K W M H) {p : Addr} {xs ys : List V} (hm : p ∈ W.hid) (h : H p = some (.lst xs)) :
    WR K W M (upd H p (.lst ys)) ∧ (∀ d v, DR K W H d v → DR K W (upd H p (.lst ys)) d v) ∧ ∀ ds vs, DRs K W H ds vs → DRs K W (upd H p (.lst ys)) ds vs := by
  have tup : ∀ a xs, TupAt K H a xs → TupAt K (upd H p (.lst ys)) a xs := fun a zs t => t.elim (fun t => .inl (by
    rw [upd_ne (fun z => by rw [z, h] at t; cases t)]; exact t)) .inr
  have fz : ∀ a xs, FzAt K H a xs → FzAt K (upd H p (.lst ys)) a xs := fun a zs t => t.elim (fun ⟨o, t⟩ => .inl ⟨o, by
    rw [upd_ne (fun z => by rw [z, h] at t; cases t)]; exact t⟩) .inr
  have st := DR_step (K := K) (W := W) (W' := W) (H := H) (H' := upd H p (.lst ys)) (fun _ _ q => q) tup
    (fun a zs t n1 n2 => ⟨by
      have : a ≠ p := fun z => n2 (by rw [z]; exact hm)
      show upd H p _ a = _
      rw [upd_ne this]; exact t, n1, n2⟩) fz
  refine ⟨⟨w.len, w.nd, w.dj, fun n a u e1 e2 => ?_, fun a m => ?_⟩, st⟩
  · have na : a ≠ p := fun z => w.dj a (List.mem_of_getElem? e1) (by rw [z]; exact hm)
    have q := w.at_ n a u e1 e2
    exact q.step (upd_ne na) st.1
  · by_cases e : a = p
    · rw [e]; exact ⟨_, upd_same⟩
    · obtain ⟨q, hq⟩ := w.hs a m
      exact ⟨q, by rw [upd_ne e]; exact hq⟩
/-- the hidden list shown: as a value -/
theorem show_ (w : WR K W M H) (w1 : WR K W1 M1 H1) (x : Ext W1 H1 W H) {p : Addr} (hp : H1 p = none) {xs : List V} (h : H p = some (.lst xs)) (hm : p ∈ W.hid) {ds : List D} (r : DRs K W H ds xs) :
    WR K ⟨W.ids, W1.hid⟩ M H ∧ Ext W1 H1 ⟨W.ids, W1.hid⟩ H ∧ DR K ⟨W.ids, W1.hid⟩ H (.lst ds) (.ref p) ∧ DRs K ⟨W.ids, W1.hid⟩ H ds xs ∧ p ∉ W.ids ∧ p ∉ W1.hid := by
  have np : p ∉ W1.hid := fun m => by
    obtain ⟨o, e⟩ := w1.hs p m
    rw [hp] at e; cases e
  have ni : p ∉ W.ids := fun m => w.dj p m hm
  have st := DR_step (K := K) (W := W) (W' := ⟨W.ids, W1.hid⟩) (H := H) (H' := H) (fun _ _ q => q) (fun _ _ t => t) (fun a zs t n1 n2 => ⟨t, n1, fun m => n2 (x.hid1 a m)⟩) fun _ _ t => t
  refine ⟨⟨w.len, w.nd, fun a m n => w.dj a m (x.hid1 a n), fun n a u e1 e2 => ?_, fun a m => w.hs a (x.hid1 a m)⟩, ⟨fun _ m => m, fun _ m => .inl m, fun a m n => w.dj a n (x.hid1 a m), x.keep, x.new, x.pre⟩, ?_, st.2 _ _ r, ni, np⟩
  · have q := w.at_ n a u e1 e2
    exact q.step rfl st.1
  · simp only [DR]
    exact ⟨p, xs, rfl, h, ni, np, st.2 _ _ r⟩
/-- .. as an object of the store -/
theorem take_ (w : WR K W M H) (w1 : WR K W1 M1 H1) (x : Ext W1 H1 W H) {p : Addr} (hp : H1 p = none) {xs : List V} (h : H p = some (.lst xs)) (hm : p ∈ W.hid) {ds : List D} (r : DRs K W H ds xs) :
    WR K ⟨W.ids ++ [p], W1.hid⟩ (M ++ [.lst ds]) H ∧ Ext W1 H1 ⟨W.ids ++ [p], W1.hid⟩ H ∧ DR K ⟨W.ids ++ [p], W1.hid⟩ H (.ref M.length) (.ref p) := by
  have nh : p ∉ W1.hid := fun m => by
    obtain ⟨o, e⟩ := w1.hs p m
    rw [hp] at e; cases e
  have ni : p ∉ W.ids := fun m => w.dj p m hm
  have idk : ∀ (n : Nat) (a : Addr), W.ids[n]? = some a → (W.ids ++ [p])[n]? = some a := fun n a e => by rw [List.getElem?_append_left (List.getElem?_eq_some_iff.mp e).1]; exact e
  have st := DR_step (K := K) (W := W) (W' := ⟨W.ids ++ [p], W1.hid⟩) (H := H) (H' := H) idk (fun _ _ t => t) (fun a zs t n1 n2 => ⟨t, fun m => (List.mem_append.mp m).elim n1 fun z => n2 (by simp at z; rw [z]; exact hm), fun m => n2 (x.hid1 a m)⟩) fun _ _ t => t
  refine ⟨⟨by simp [w.len], List.nodup_append.mpr ⟨w.nd, by simp, fun a m b z => ?_⟩, fun a m n => ?_, fun n a u e1 e2 => ?_, fun a m => w.hs a (x.hid1 a m)⟩, ⟨fun _ m => m, fun _ m => .inl m, fun a m n => ?_, x.keep, fun a m => ?_, ?_⟩, dr_ref (by simp [w.len])⟩
  · simp at z; subst z
    exact fun z => ni (by rw [← z]; exact m)
  · rcases List.mem_append.mp m with m | m
    · exact w.dj a m (x.hid1 a n)
    · simp at m; subst m; exact nh n
  · by_cases hn : n < W.ids.length
    · rw [List.getElem?_append_left hn] at e1
      rw [List.getElem?_append_left (by rw [← w.len]; exact hn)] at e2
      have q := w.at_ n a u e1 e2
      exact q.step rfl st.1
    · rw [List.getElem?_append_right (by omega)] at e1
      rw [List.getElem?_append_right (by rw [← w.len]; omega), ← w.len] at e2
      have hz : n - W.ids.length = 0 := by
        cases q : n - W.ids.length with
        | zero => rfl
        | succ k => rw [q] at e1; simp at e1
      rw [hz] at e1 e2
      simp at e1 e2
      subst e1 e2
      exact ⟨xs, h, st.2 _ _ r⟩
  · rcases List.mem_append.mp n with n | n
    · exact w.dj a n (x.hid1 a m)
    · simp at n; subst n; exact nh m
  · rcases List.mem_append.mp m with m | m
    · exact x.new a m
    · simp at m; subst m; exact .inr hp
  · obtain ⟨t, e⟩ := x.pre
    exact ⟨t ++ [p], by rw [e, List.append_assoc]⟩
theorem ext_fill (x : Ext W1 H1 W H) {p : Addr} {o : HO} (hp : H1 p = none) : Ext W1 H1 W (upd H p o) :=
  ⟨x.hid1, x.hid2, x.dj, fun a u e n => by rw [upd_ne (ne_of_none e hp)]; exact x.keep a u e n, x.new, x.pre⟩
theorem compGo_len {cond : En → Mm → Option (Bool × Mm)} {elt : En → Mm → Option (D × Mm)} {t : Tg} {src : List (Nat × List D)} {env : En} : ∀ {ds acc r : List D} {M M' : Mm}, compGo cond elt t src env ds acc M = some (r, M') → acc.length ≤ r.length
  | [], acc, r, M, M', e => by
    simp only [compGo] at e
    split at e
    · cases e; exact Nat.le_refl _
    · cases e
  | d :: ds, acc, r, M, M', e => by
    simp only [compGo] at e
    split at e
    · simp only [Option.bind_eq_some_iff] at e
      obtain ⟨env1, e1, ⟨b, Mb⟩, e2, e⟩ := e
      cases b with
      | true =>
        simp only [if_true, Option.bind_eq_some_iff] at e
        obtain ⟨⟨v, Me⟩, e3, e⟩ := e
        have := compGo_len e
        simp at this
        omega
      | false =>
        simp only [Bool.false_eq_true, if_false] at e
        exact compGo_len e
    · cases e
theorem wipe_in {σ : L2.St} {i : Nat} : ∀ {vs : List Nat}, i ∈ vs → (L2.wipe σ vs)[i]? = if i < σ.length then some none else none
  | [], h => by simp at h
  | v :: vs, h => by
    unfold L2.wipe
    by_cases e : v = i
    · subst e
      by_cases hl : v < σ.length
      · rw [List.getElem?_set_self (by rw [L2.wipe_length]; exact hl), if_pos hl]
      · rw [List.getElem?_eq_none (by rw [List.length_set, L2.wipe_length]; omega), if_neg hl]
    · rw [List.getElem?_set_ne e]
      exact wipe_in ((List.mem_cons.mp h).elim (fun z => absurd z.symm e) id)
theorem wipe_wipe (σ : L2.St) (vs : List Nat) : L2.wipe (L2.wipe σ vs) vs = L2.wipe σ vs := by
  apply List.ext_getElem?
  intro i
  by_cases h : i ∈ vs
  · rw [wipe_in h, wipe_in h, L2.wipe_length]
  · rw [L2.wipe_out h]
theorem comp_turns {t : Tg} {own : List Nat} {cond : En → Mm → Option (Bool × Mm)} {elt : En → Mm → Option (D × Mm)} {m : Bool} {I : ItD} {J : It} {env : En} {σ : L2.St} {accF : List D} {M2 M' : Mm} {d : D} {Q : VK}
    (hg : good t = true) (ht : tgIn t own = true) (w1 : WR K W1 M1 H1) (re : RE K W1 H1 env σ) (ok : ItOk K J I W1 H1) (e : compGo cond elt t I.src (wipeD env own) I.items [] M1 = some (accF, M2)) (en : newL m accF M2 = some (d, M')) (q : Post K W1 H1 M' d Q) {p : Addr} (hp : H1 p = none) :
    ∃ Wi : Nat → Nat → Hp → Prop, (∃ m, Wi 0 m (upd H1 p (.lst []))) ∧ ∀ i m H, Wi i m H →
      (J.stop i H ∧ Q (.ref p) H) ∨ (J.go i H ∧ ∃ Nx : Hp → Prop, (∀ H', Nx H' → ∃ m', m' < m ∧ Wi (i + 1) m' H') ∧ ∀ x H', J.yld i H x H' → gOf K.k t x (L2.wipe σ own) H' fun σ2 H2 => L2.wipe σ2 own = L2.wipe σ own ∧ tyT K cond σ2 H2 fun b H3 =>
        if b = true then tyE K elt σ2 H3 fun y H4 => ∃ acc, H4 p = some (.lst acc) ∧ acc.length < sizeLine ∧ Nx (upd H4 p (.lst (acc ++ [y]))) else Nx H3) := by
  let St := fun (i : Nat) (Hc : Hp) => ∃ Wc Mc acc xs, WR K Wc Mc Hc ∧ Ext W1 H1 Wc Hc ∧ p ∈ Wc.hid ∧ Hc p = some (.lst xs) ∧ DRs K Wc Hc acc xs ∧ compGo cond elt t I.src (wipeD env own) (I.items.drop i) acc Mc = some (accF, M2)
  refine ⟨fun i m Hc => m = I.items.length - i ∧ i ≤ I.items.length ∧ St i Hc, ⟨_, rfl, Nat.zero_le _, ?_⟩, ?_⟩
  · obtain ⟨w', x'⟩ := hide (xs := []) w1 hp
    exact ⟨_, M1, [], [], w', x', List.mem_cons_self, upd_same, .nil, e⟩
  rintro i m' Hc ⟨rfl, hi, Wc, Mc, acc, xs, w, x, hm, hx, r, e⟩
  have len : accF.length ≤ sizeLine := newL_len en
  by_cases hlt : i < I.items.length
  · right
    rw [List.drop_eq_getElem_cons hlt] at e
    simp only [compGo] at e
    split at e
    · rename_i hc
      simp only [Option.bind_eq_some_iff] at e
      obtain ⟨env1, e1, ⟨b, Mb⟩, e2, e⟩ := e
      obtain ⟨k1, k2⟩ := ok Wc Hc Mc x.weak w hc
      obtain ⟨g1, g2⟩ := k1 i _ (List.getElem?_eq_getElem hlt)
      refine ⟨g1, St (i + 1), fun H' nx => ⟨_, by omega, rfl, hlt, nx⟩, fun y H' hy => ?_⟩
      obtain ⟨x2, w2, r2⟩ := g2 y H' hy
      have x12 := x.trans x2
      have re2 : RE K Wc H' (wipeD env own) (L2.wipe σ own) := (re.wipe own).mono w1 x12
      refine (asg_all t hg).1 _ _ env1 y _ _ e1 re2 r2 fun σ2 re3 hw => ⟨by rw [hw own ht, wipe_wipe], env1, Wc, Mc, b, Mb, re3, w2, e2, fun W3 H3 x3 w3 => ?_⟩
      have hp3 : H3 p = some (.lst xs) := x3.keep p _ (x2.keep p _ hx fun z => w.dj p z hm) fun z => w2.dj p z hm
      cases b with
      | true =>
        simp only [if_true, Option.bind_eq_some_iff] at e ⊢
        obtain ⟨⟨v, Me⟩, e3, e⟩ := e
        refine ⟨env1, W3, Mb, v, Me, re3.mono w2 x3, w3, e3, fun W4 H4 u x4 w4 r4 => ?_⟩
        have hm3 := x3.hid1 p hm
        have hm4 := x4.hid1 p hm3
        have hp4 : H4 p = some (.lst xs) := x4.keep p _ hp3 fun z => w3.dj p z hm3
        have rA : DRs K W4 H4 acc xs := ((r.mono w x2).mono w2 x3).mono w3 x4
        refine ⟨xs, hp4, ?_, ?_⟩
        · have := compGo_len e
          rw [← r.length]
          simp at this
          omega
        · obtain ⟨wf, sf1, sf2⟩ := fill (ys := xs ++ [u]) w4 hm4 hp4
          exact ⟨W4, Me, acc ++ [v], xs ++ [u], wf, ext_fill (x12.trans (x3.trans x4)) hp, hm4, upd_same, sf2 _ _ (rA.app (.one r4)), e⟩
      | false =>
        simp only [Bool.false_eq_true, if_false] at e ⊢
        exact ⟨W3, Mb, acc, xs, w3, x12.trans x3, x3.hid1 p hm, hp3, (r.mono w x2).mono w2 x3, e⟩
    · cases e
  · left
    have hi' : I.items.length ≤ i := by omega
    rw [List.drop_eq_nil_of_le hi'] at e
    simp only [compGo] at e
    split at e
    · rename_i hc
      cases e
      obtain ⟨k1, k2⟩ := ok Wc Hc _ x.weak w hc
      refine ⟨k2 i hi', ?_⟩
      unfold newL at en
      split at en
      · cases m with
        | true =>
          simp only [if_true] at en
          cases en
          obtain ⟨a1, a2, a3⟩ := take_ w w1 x hp hx hm r
          exact q _ _ _ a2 a1 a3
        | false =>
          simp only [Bool.false_eq_true, if_false] at en
          cases en
          obtain ⟨a1, a2, a3, _⟩ := show_ w w1 x hp hx hm r
          exact q _ _ _ a2 a1 a3
      · cases en
    · cases e
end
end DL

set_option maxRecDepth 100000
namespace DL
open PySem PySem.Spec PyProof.Rows L2

def innerOf (itf : En → Mm → Option (ItD × Mm)) (elt : En → Mm → Option (D × Mm)) (t1 : Tg) (own1 : List Nat) : En → List D → Mm → Option (List D × Mm) :=
  fun env acc M => (itf env M).bind fun p => compGo (fun _ M => some (true, M)) elt t1 p.1.src (wipeD env own1) p.1.items acc p.2
theorem innerOf_len {itf : En → Mm → Option (ItD × Mm)} {elt : En → Mm → Option (D × Mm)} {t1 : Tg} {own1 : List Nat} {env : En} {acc r : List D} {M M' : Mm} (e : innerOf itf elt t1 own1 env acc M = some (r, M')) : acc.length ≤ r.length := by
  unfold innerOf at e
  simp only [Option.bind_eq_some_iff] at e
  obtain ⟨p, _, e⟩ := e
  exact compGo_len e
theorem comp2Go_len {inner : En → List D → Mm → Option (List D × Mm)} (hl : ∀ {env acc M r M'}, inner env acc M = some (r, M') → acc.length ≤ r.length) {t : Tg} {src : List (Nat × List D)} {env : En} : ∀ {ds acc r : List D} {M M' : Mm}, comp2Go inner t src env ds acc M = some (r, M') → acc.length ≤ r.length
  | [], acc, r, M, M', e => by
    simp only [comp2Go] at e
    split at e
    · cases e; exact Nat.le_refl _
    · cases e
  | d :: ds, acc, r, M, M', e => by
    simp only [comp2Go] at e
    split at e
    · simp only [Option.bind_eq_some_iff] at e
      obtain ⟨env1, e1, ⟨a, Ma⟩, e2, e⟩ := e
      exact Nat.le_trans (hl e2) (comp2Go_len hl e)
    · cases e
section
variable {K : Kw} {W W1 : Wd} {H H1 : Hp} {M M1 : Mm}
theorem ExtW.thn {W W' W2 : Wd} {H H' H2 : Hp} {M' : Mm} (w' : WR K W' M' H') (x : ExtW W H W' H') (y : Ext W' H' W2 H2) : ExtW W H W2 H2 where
  hid1 := fun a m => y.hid1 a (x.hid1 a m)
  hid2 := fun a m => (y.hid2 a m).elim (x.hid2 a) fun z => by
    cases e : H a with
    | none => exact .inr rfl
    | some o =>
      by_cases q : a ∈ W.ids
      · exfalso
        obtain ⟨t, e⟩ := x.pre
        obtain ⟨u, e'⟩ := y.pre
        exact y.dj a m (by rw [e', e]; simp [q])
      · by_cases q2 : a ∈ W.hid
        · exact .inl q2
        · rw [x.keep a o e q q2] at z; cases z
  keep := fun a o h n n2 => y.keep a o (x.keep a o h n n2) fun m => (x.new a m).elim n fun z => by rw [h] at z; cases z
  new := fun a m => (y.new a m).elim (x.new a) fun z => by
    cases e : H a with
    | none => exact .inr rfl
    | some o =>
      by_cases q : a ∈ W.ids
      · exact .inl q
      · by_cases q2 : a ∈ W.hid
        · exfalso
          obtain ⟨o, e⟩ := w'.hs a (x.hid1 a q2)
          rw [z] at e; cases e
        · rw [x.keep a o e q q2] at z; cases z
  pre := by
    obtain ⟨t, e⟩ := x.pre
    obtain ⟨u, e'⟩ := y.pre
    exact ⟨t ++ u, by rw [e', e, List.append_assoc]⟩
theorem ExtW.fill {W W' : Wd} {H H' : Hp} {p : Addr} {o : HO} (x : ExtW W H W' H') (hp : p ∈ W.hid) : ExtW W H W' (upd H' p o) :=
  ⟨x.hid1, x.hid2, fun a u e n n2 => by
    have : a ≠ p := fun z => n2 (by rw [z]; exact hp)
    rw [upd_ne this]; exact x.keep a u e n n2, x.new, x.pre⟩
theorem comp2_turns {t t1 : Tg} {own own1 : List Nat} {itf : En → Mm → Option (ItD × Mm)} {elt : En → Mm → Option (D × Mm)} {m : Bool} {I : ItD} {J : It} {env : En} {σ : L2.St} {accF : List D} {M2 M' : Mm} {d : D} {Q : VK}
    (hg : good t = true) (ht : tgIn t own = true) (hg1 : good t1 = true) (ht1 : tgIn t1 own1 = true) (w1 : WR K W1 M1 H1) (re : RE K W1 H1 env σ) (ok : ItOk K J I W1 H1) (e : comp2Go (innerOf itf elt t1 own1) t I.src (wipeD env own) I.items [] M1 = some (accF, M2))
    (en : newL m accF M2 = some (d, M')) (q : Post K W1 H1 M' d Q) {p : Addr} (hp : H1 p = none) {yes yes1 : TT} (hy : ∀ σ H Q, Q true H → yes σ H Q) (hy1 : ∀ σ H Q, Q true H → yes1 σ H Q) :
    ∃ Wi : Nat → Nat → Hp → Prop, (∃ m, Wi 0 m (upd H1 p (.lst []))) ∧ ∀ i m H, Wi i m H →
      (J.stop i H ∧ Q (.ref p) H) ∨ (J.go i H ∧ ∃ Nx : Hp → Prop, (∀ H', Nx H' → ∃ m', m' < m ∧ Wi (i + 1) m' H') ∧ ∀ x H', J.yld i H x H' → gOf K.k t x (L2.wipe σ own) H' fun σ2 H2 => L2.wipe σ2 own = L2.wipe σ own ∧ yes σ2 H2 fun b H3 =>
        if b = true then tyI K itf σ2 H3 fun J1 H4 => ∃ W1 : Nat → Nat → Hp → Prop, (∃ m, W1 0 m H4) ∧ ∀ j k H, W1 j k H →
          (J1.stop j H ∧ Nx H) ∨ (J1.go j H ∧ ∃ Nx1 : Hp → Prop, (∀ H', Nx1 H' → ∃ k', k' < k ∧ W1 (j + 1) k' H') ∧ ∀ x H', J1.yld j H x H' → gOf K.k t1 x (L2.wipe σ2 own1) H' fun σ3 H5 => L2.wipe σ3 own1 = L2.wipe σ2 own1 ∧ yes1 σ3 H5 fun b H6 =>
            if b = true then tyE K elt σ3 H6 fun y H7 => ∃ acc, H7 p = some (.lst acc) ∧ acc.length < sizeLine ∧ Nx1 (upd H7 p (.lst (acc ++ [y]))) else Nx1 H6)
        else Nx H3) := by
  let St := fun (i : Nat) (Hc : Hp) => ∃ Wc Mc acc xs, WR K Wc Mc Hc ∧ Ext W1 H1 Wc Hc ∧ p ∈ Wc.hid ∧ Hc p = some (.lst xs) ∧ DRs K Wc Hc acc xs ∧ comp2Go (innerOf itf elt t1 own1) t I.src (wipeD env own) (I.items.drop i) acc Mc = some (accF, M2)
  refine ⟨fun i m Hc => m = I.items.length - i ∧ i ≤ I.items.length ∧ St i Hc, ⟨_, rfl, Nat.zero_le _, ?_⟩, ?_⟩
  · obtain ⟨w', x'⟩ := hide (xs := []) w1 hp
    exact ⟨_, M1, [], [], w', x', List.mem_cons_self, upd_same, .nil, e⟩
  rintro i m' Hc ⟨rfl, hi, Wc, Mc, acc, xs, w, x, hm, hx, r, e⟩
  have len : accF.length ≤ sizeLine := newL_len en
  by_cases hlt : i < I.items.length
  · right
    rw [List.drop_eq_getElem_cons hlt] at e
    simp only [comp2Go] at e
    split at e
    · rename_i hc
      simp only [Option.bind_eq_some_iff] at e
      obtain ⟨env1, e1, ⟨accI, MI⟩, e2, e⟩ := e
      obtain ⟨k1, k2⟩ := ok Wc Hc Mc x.weak w hc
      obtain ⟨g1, g2⟩ := k1 i _ (List.getElem?_eq_getElem hlt)
      refine ⟨g1, St (i + 1), fun H' nx => ⟨_, by omega, rfl, hlt, nx⟩, fun y H' hy' => ?_⟩
      obtain ⟨x2, w2, r2⟩ := g2 y H' hy'
      have x12 := x.trans x2
      have re2 : RE K Wc H' (wipeD env own) (L2.wipe σ own) := (re.wipe own).mono w1 x12
      refine (asg_all t hg).1 _ _ env1 y _ _ e1 re2 r2 fun σ2 re3 hw => ⟨by rw [hw own ht, wipe_wipe], hy _ _ _ ?_⟩
      rw [if_pos rfl]
      unfold innerOf at e2
      simp only [Option.bind_eq_some_iff] at e2
      obtain ⟨⟨I1, MJ⟩, e3, e2⟩ := e2
      refine ⟨env1, Wc, Mc, I1, MJ, re3, w2, e3, fun W4 H4 J1 x4 w4 ok1 => ?_⟩
      have hp4 : H4 p = some (.lst xs) := x4.keep p _ (x2.keep p _ hx fun z => w.dj p z hm) fun z => w2.dj p z hm
      have x14 := x12.trans x4
      let St1 := fun (j : Nat) (Hd : Hp) => ∃ Wd Md acc xs, WR K Wd Md Hd ∧ ExtW W4 H4 Wd Hd ∧ Ext W1 H1 Wd Hd ∧ p ∈ Wd.hid ∧ Hd p = some (.lst xs) ∧ DRs K Wd Hd acc xs ∧ compGo (fun _ M => some (true, M)) elt t1 I1.src (wipeD env1 own1) (I1.items.drop j) acc Md = some (accI, MI) ∧ RE K Wd Hd (wipeD env1 own1) (L2.wipe σ2 own1)
      refine ⟨fun j k Hd => k = I1.items.length - j ∧ j ≤ I1.items.length ∧ St1 j Hd, ⟨_, rfl, Nat.zero_le _, ?_⟩, ?_⟩
      · exact ⟨W4, MJ, acc, xs, w4, w4.refl.weak, x14, x4.hid1 p hm, hp4, (r.mono w x2).mono w2 x4, e2, (re3.mono w2 x4).wipe own1⟩
      rintro j m1 Hd ⟨rfl, hj, Wd, Md, acc1, xs1, wd, xd, xd1, hmd, hxd, rd, ed, red⟩
      by_cases hlj : j < I1.items.length
      · right
        rw [List.drop_eq_getElem_cons hlj] at ed
        simp only [compGo] at ed
        split at ed
        · rename_i hcd
          simp only [Option.bind_eq_some_iff, Option.some.injEq] at ed
          obtain ⟨env3, f1, ⟨b, Mb⟩, f2, ed⟩ := ed
          cases f2
          simp only [if_true, Option.bind_eq_some_iff] at ed
          obtain ⟨⟨v, Me⟩, f3, ed⟩ := ed
          obtain ⟨l1, l2⟩ := ok1 Wd Hd _ xd wd hcd
          obtain ⟨n1, n2⟩ := l1 j _ (List.getElem?_eq_getElem hlj)
          refine ⟨n1, St1 (j + 1), fun H' nx => ⟨_, by omega, rfl, hlj, nx⟩, fun y5 H5 hy5 => ?_⟩
          obtain ⟨x5, w5, r5⟩ := n2 y5 H5 hy5
          refine (asg_all t1 hg1).1 _ _ env3 y5 _ _ f1 (red.mono wd x5) r5 fun σ3 re6 hw3 => ⟨by rw [hw3 own1 ht1, wipe_wipe], hy1 _ _ _ ?_⟩
          rw [if_pos rfl]
          refine ⟨env3, Wd, Md, v, Me, re6, w5, f3, fun W7 H7 u x7 w7 r7 => ?_⟩
          have hm7 := x7.hid1 p hmd
          have hp7 : H7 p = some (.lst xs1) := x7.keep p _ (x5.keep p _ hxd fun z => wd.dj p z hmd) fun z => w5.dj p z hmd
          have rA : DRs K W7 H7 acc1 xs1 := (rd.mono wd x5).mono w5 x7
          refine ⟨xs1, hp7, ?_, ?_⟩
          · have a1 := compGo_len ed
            have a2 : accI.length ≤ accF.length := comp2Go_len innerOf_len e
            rw [← rd.length]
            simp at a1
            omega
          · obtain ⟨wf, sf1, sf2⟩ := fill (ys := xs1 ++ [u]) w7 hm7 hp7
            have xz := xd1.trans (x5.trans x7)
            have xq' : ExtW W4 H4 W7 (upd H7 p (.lst (xs1 ++ [u]))) := (xd.thn wd (x5.trans x7)).fill (x4.hid1 p hm)
            refine ⟨W7, Me, acc1 ++ [v], xs1 ++ [u], wf, xq', ext_fill xz hp, hm7, upd_same, sf2 _ _ (rA.app (.one r7)), ed, ?_⟩
            have rr := (red.mono wd x5).mono w5 x7
            refine ⟨rr.1, fun i d e => ?_⟩
            obtain ⟨z, z1, z2⟩ := rr.2 i d e
            exact ⟨z, z1, sf1 _ _ z2⟩
        · cases ed
      · left
        have hj' : I1.items.length ≤ j := by omega
        rw [List.drop_eq_nil_of_le hj'] at ed
        simp only [compGo] at ed
        split at ed
        · rename_i hcd
          cases ed
          obtain ⟨l1, l2⟩ := ok1 Wd Hd _ xd wd hcd
          exact ⟨l2 j hj', Wd, _, _, xs1, wd, xd1, hmd, hxd, rd, e⟩
        · cases ed
    · cases e
  · left
    have hi' : I.items.length ≤ i := by omega
    rw [List.drop_eq_nil_of_le hi'] at e
    simp only [comp2Go] at e
    split at e
    · rename_i hc
      cases e
      obtain ⟨k1, k2⟩ := ok Wc Hc _ x.weak w hc
      refine ⟨k2 i hi', ?_⟩
      unfold newL at en
      split at en
      · cases m with
        | true =>
          simp only [if_true] at en
          cases en
          obtain ⟨a1, a2, a3⟩ := take_ w w1 x hp hx hm r
          exact q _ _ _ a2 a1 a3
        | false =>
          simp only [Bool.false_eq_true, if_false] at en
          cases en
          obtain ⟨a1, a2, a3, _⟩ := show_ w w1 x hp hx hm r
          exact q _ _ _ a2 a1 a3
      · cases en
    · cases e
end
end DL

set_option maxRecDepth 100000
namespace DL
open PySem PySem.Spec PyProof.Rows L2

theorem pts_imp {X : Cx} {l : List Expr} {t t' : TT} (h : PTs X l t) (hi : ∀ σ H Q, t' σ H Q → t σ H Q) : PTs X l t' := ⟨fun pins s σ H Q I q => h.run pins s σ H Q I (hi σ H Q q)⟩
section
variable {T : Tab} {call : CallF} {N : List Str} {raw sc : Scope} {k : Nat} {X : Cx} {a b cE : E} {x y z : Expr} {pos : Pos}
theorem relS_free {scope sc : Scope} {x : Str} {kd : NameKind} (h : kd ≠ .free) (e : scope.names.lookup x = some kd) : (relS scope sc).names.lookup x = some kd := lookup_relS_keep h e
theorem Ck.blk (c : Ck T call N raw sc k X) {s : Shared} {H : Hp} {scope : Scope} {C : Addr} {cl : List (Str × Addr)} {fp : List Addr} : Ck T call N scope (relS scope sc) k (X.blk s H scope (compEnvC scope cl C X.env) fp) where
  g := c.g
  hN := c.hN
  nd := c.nd
  hsc := by show relS scope X.env.scope = _; rw [c.hsc]
  calm := c.calm
  room := c.room
  fn := fun x h => by show (scope.names.lookup x == some .cell) = true; rw [h]; rfl
  loc := fun x h => relS_free (by decide) h
  cel := fun x h => relS_free (by decide) h
  xe := rfl
theorem snd_comp {t : Tg} {own : List Nat} {it cond elt : E} {m : Bool} {tg iter el : Expr} {ifs : List Expr} {scope : Scope} (c : Ck T call N raw sc k X) (hb : blkC N sc scope (own.map fun i => (N.getD i "", i)) = true) (ht : tgIn t own = true) (hc : chkT N scope t tg = true) (hs : isSetE iter = false)
    (hi : PI X tg iter (tyI (kwOf X) (evIt call it))) (hif : ∀ Y, Ck T call N scope (relS scope sc) k Y → PTs Y ifs (tyT (kwOf Y) (evT call cond))) (hel : ∀ Y, Ck T call N scope (relS scope sc) k Y → PE Y el (tyE (kwOf Y) (evE call elt))) :
    PE X (.ListComp el [⟨tg, iter, ifs, 0⟩] scope pos) (tyE (kwOf X) (evE call (.comp m t own it cond elt))) := by
  have ok : BlkOk X.N X.env.scope scope (own.map fun i => (N.getD i "", i)) := by
    rw [c.hN, c.hsc]; exact blkOk_by hb
  have ho : (own.map fun i => (N.getD i ("" : Str), i)).map (·.2) = own := by
    rw [List.map_map]
    conv => rhs; rw [← List.map_id own]
    rfl
  have hg := (good_of (N := N) (raw := scope) (t := t)).1 hc
  have pe := pe_lc (X := X) (pos := pos) (own := own.map fun i => (N.getD i "", i)) (g := gOf X.K t) (tt := tyT (kwOf X) (evT call cond)) (te := tyE (kwOf X) (evE call elt)) c.calm (by rw [c.hN]; exact c.nd) hi ok
    (fun s H C cl fp => (pg_all (c.blk (s := s) (H := H) (scope := scope) (C := C) (cl := cl) (fp := fp)) t).1 tg hc) (fun s H C cl fp => hif _ c.blk) (fun s H C cl fp => hel _ c.blk) (fold_plain hs)
  rw [ho] at pe
  refine pe_imp pe fun σ H Q ⟨env, W, M, d, M', re, wr, e, q⟩ => ?_
  simp only [evE, Option.bind_eq_some_iff] at e
  obtain ⟨⟨I, M1⟩, e1, ⟨accF, M2⟩, e2, e3⟩ := e
  exact ⟨env, W, M, I, M1, re, wr, e1, fun W1 H1 J x1 w1 ok1 D hD => comp_turns hg ht w1 (re.mono wr x1) ok1 e2 e3 (q.ext x1) hD⟩

/-! ### isinstance -/
def tTys (vs : List V) : TA := fun _ H Q => Q vs H
theorem boot_ty (t : Ty) : bootBuiltins (tyS t) = some (.type (tyN t)) := by cases t <;> decide +kernel
theorem pe_ty {t : Ty} {xn : Str} {p : Pos} (c : Ck T call N raw sc k X) (h1 : xn = tyS t) (h2 : DL.gl sc xn = true) (h3 : xn ∈ T.bl) : PE X (.Name xn p) (tC (.ty (tyN t))) := by
  subst h1
  exact pe_bltn (c.gl h2).1 (c.g.bls _ h3) (boot_ty t) rfl (c.gl h2).2.2 (c.gl h2).2.1
theorem pa_tys (c : Ck T call N raw sc k X) : ∀ (ts : List Ty) (es : List Expr), tyEs T sc ts es = true → PA X es (tTys (ts.map fun t => .ty (tyN t)))
  | [], [], _ => pa_imp pa_nil fun _ _ _ q => q
  | [], _ :: _, h => by simp [tyEs] at h
  | _ :: _, [], h => by simp [tyEs] at h
  | t :: ts, e :: es, h => by
    cases e with
    | Name xn p =>
      simp only [tyEs, Bool.and_eq_true, decide_eq_true_eq, List.contains_iff_mem] at h
      obtain ⟨⟨⟨h1, h2⟩, h3⟩, h4⟩ := h
      exact pa_imp (pa_cons (pe_ty c h1 h2 h3) (pa_tys c ts es h4)) fun _ _ _ q => q
    | _ => simp [tyEs] at h
theorem cls_tys : ∀ ts : List Ty, Paired ClsV (ts.map fun t => V.ty (tyN t)) (ts.map fun t => Value.type (tyN t))
  | [] => .nil
  | t :: ts => .cons (.ty _) (cls_tys ts)
theorem isi_pa {f : Value → Prop} {ts : List Ty} {zt : TE} (c : Ck T call N raw sc k X) {xn : Str} {p : Pos} (h1 : xn = "isinstance") (h2 : DL.gl sc xn = true) (h3 : xn ∈ T.bl) (hs : isStar x = false) (hz : isStar z = false) (ha : PE X x (tyE (kwOf X) (evE call a)))
    (hzt : PE X z zt) (hq : ∀ σ W M H v (d : D) (r : Bool) (Q : V → Hp → Prop), WR (kwOf X) W M H → DR (kwOf X) W H d v → semIsi M d ts = some r → (∀ H', Ext W H W H' → WR (kwOf X) W M H' → Q (.bl r) H') → zt σ H fun u H' => rIsi X.K [v, u] H' Q ∨ rIsiT X.K [v, u] H' Q) :
    PE X (.Call (.Name xn p) [x, z] [] pos) (tyE (kwOf X) (evE call (.isi a ts))) := by
  subst h1
  have hr : CallR X (.builtin "isinstance") (fun xs H Q => rIsi X.K xs H Q ∨ rIsiT X.K xs H Q) := call_isi.or call_isiT
  refine pe_imp (pe_callB hr (c.gl h2).1 (c.g.bls _ h3) PyProof.Rows.boot_isinstance (pa_cons ha (pa_cons hzt pa_nil (star_plain hz)) (star_plain hs)) (by decide) (c.gl h2).2.1 (star_plain hs) (back_plain (by simp [hz]))) fun σ H Q ⟨env, W, M, d, M', re, wr, e, q⟩ => ?_
  simp only [evE, Option.bind_eq_some_iff, Option.map_eq_some_iff] at e
  obtain ⟨⟨d1, M1⟩, e1, r, e2, e⟩ := e
  cases e
  exact ⟨env, W, M, d1, _, re, wr, e1, fun W1 H1 v1 x1 w1 r1 => hq σ W1 _ H1 v1 d1 r Q w1 r1 e2 fun H' x2 w2 => q W1 H' _ (x1.trans x2) w2 (dr_bl _)⟩
theorem snd_isi1 {t : Ty} (c : Ck T call N raw sc k X) {xn zn : Str} {p pz : Pos} (h1 : xn = "isinstance") (h2 : DL.gl sc xn = true) (h3 : xn ∈ T.bl) (hs : isStar x = false) (ha : PE X x (tyE (kwOf X) (evE call a))) (hz : zn = tyS t) (hz2 : DL.gl sc zn = true) (hz3 : zn ∈ T.bl) :
    PE X (.Call (.Name xn p) [x, .Name zn pz] [] pos) (tyE (kwOf X) (evE call (.isi a [t]))) := by
  refine isi_pa (f := fun _ => True) c h1 h2 h3 hs rfl ha (pe_ty c hz hz2 hz3) fun σ W M H v d r Q w rd e q => .inl ?_
  obtain ⟨tv, f, g1, g2, g3⟩ := semIsi_ok w rd e
  refine ⟨v, _, tv, _, f t, rfl, .ty _, g1, g2 t, ?_⟩
  have : f t = r := by simpa using g3
  rw [this]
  exact q H w.refl w
theorem snd_isiT {ts : List Ty} {l : List Expr} {kk : Nat} {pz : Pos} (c : Ck T call N raw sc k X) {xn : Str} {p : Pos} (h1 : xn = "isinstance") (h2 : DL.gl sc xn = true) (h3 : xn ∈ T.bl) (hs : isStar x = false) (ha : PE X x (tyE (kwOf X) (evE call a))) (hz : tyEs T sc ts l = true) (hl : ts.length ≤ 5) :
    PE X (.Call (.Name xn p) [x, .Tuple l kk pz] [] pos) (tyE (kwOf X) (evE call (.isi a ts))) := by
  refine isi_pa (f := fun _ => True) c h1 h2 h3 hs rfl ha (pe_tup (pa_tys c ts l hz)) fun σ W M H v d r Q w rd e q => ?_
  refine ⟨by rw [List.length_map, sizeLine_eq]; omega, fun p hp => .inr ?_⟩
  have w' := w.new (o := .tup (ts.map fun t => .ty (tyN t))) hp
  have x' := ext_new (o := .tup (ts.map fun t => V.ty (tyN t))) w hp
  obtain ⟨tv, f, g1, g2, g3⟩ := semIsi_ok w' (rd.mono w x') e
  exact ⟨v, p, _, tv, _, r, rfl, upd_same, cls_tys ts, g1, by rw [← g3]; exact kits g2 ts, q _ x' w'⟩

/-! ### methods -/
theorem few {l : List Expr} {env : Env} {cp : Pos} (h1 : (l.all fun e => !isStar e) = true) (h2 : l.length < 30) :
    ((backTo cp (starEach l env)).all (fun x => !x.1) && (backToKw cp (keywordEach [] env)).all (fun x => x.1.isSome) && decide (l.length + ([] : List Keyword).length + (if ([] : List Keyword).isEmpty then 0 else 1) < 30)) = true := by
  have h3 := back_plain (pos := cp) (env := env) h1
  have h4 : (backTo cp (starEach l env)).all (fun x => !x.1) = true := by
    rw [List.all_eq_true]
    intro q hq
    rw [List.any_eq_false] at h3
    simpa using h3 q hq
  rw [h4]
  have : decide (l.length + ([] : List Keyword).length + (if ([] : List Keyword).isEmpty then 0 else 1) < 30) = true := decide_eq_true (by simpa using h2)
  rw [this]
  rfl
theorem mt_ok (bm : Mth) (hb : bm ≠ .get2) : MtR X ("list." ++ (match bm with | .append => "append" | .insert => "insert" | .get2 => "get")) (mtR (kwOf X) bm) := by
  cases bm with
  | append => exact mt_append
  | insert => exact mt_insert
  | get2 => exact absurd rfl hb
theorem snd_mth {bm : Mth} {m : Bool} {l : List Expr} {n : Str} {ap cp : Pos} (c : Ck T call N raw sc k X) (h1 : n = mtN bm) (hb : bm ≠ .get2) (h2 : isSuper x = false) (h3 : (ap.endLine == cp.line) = true) (h4 : (l.all fun e => !isStar e) = true) (h5 : l ≠ []) (h6 : l.length < 30)
    (ha : PE X x (tyE (kwOf X) (evE call a))) (hbs : PA X l (tyA (kwOf X) (evEs call b))) : PE X (.Call (.Attribute x n ap) l [] cp) (tyE (kwOf X) (evE call (.mth bm m a b))) := by
  subst h1
  cases l with
  | nil => exact absurd rfl h5
  | cons e0 es =>
    have hs : isStar e0 = false := by simp only [List.all_cons, Bool.and_eq_true, Bool.not_eq_true'] at h4; exact h4.1
    have hs2 : (es.all fun e => !isStar e) = true := by simp only [List.all_cons, Bool.and_eq_true] at h4; exact h4.2
    have go : PE X (.Call (.Attribute x (mtN bm) ap) (e0 :: es) [] cp) (tBM X.K "list" (mtR (kwOf X) bm) (tyE (kwOf X) (evE call a)) (tyA (kwOf X) (evEs call b))) := by
      cases bm with
      | append => exact pe_bm PySem.F.plainAttrs_list PySem.F.slot_list_append PySem.F.type_list_append mt_append ha hbs (base_plain h2 _) (few h4 h6) h3 (star_plain hs) (back_plain hs2)
      | insert => exact pe_bm PySem.F.plainAttrs_list PySem.F.slot_list_insert PySem.F.type_list_insert mt_insert ha hbs (base_plain h2 _) (few h4 h6) h3 (star_plain hs) (back_plain hs2)
      | get2 => exact absurd rfl hb
    refine pe_imp go fun σ H Q ⟨env, W, M, d, M', re, wr, e, q⟩ => ?_
    simp only [evE, Option.bind_eq_some_iff] at e
    obtain ⟨⟨d1, M1⟩, e1, e⟩ := e
    split at e
    · rename_i hm
      simp only [Option.bind_eq_some_iff] at e
      obtain ⟨⟨ds, M2⟩, e2, e⟩ := e
      refine ⟨env, W, M, d1, M1, re, wr, e1, fun W1 H1 v1 x1 w1 r1 => ⟨?_, env, W1, M1, ds, M2, re.mono wr x1, w1, e2, fun W2 H2 vs x2 w2 r2 => semM_ok w2 (r1.mono w1 x2) r2 e (q.ext (x1.trans x2))⟩⟩
      have : ∃ es, lstOf M1 d1 = some es := by
        cases bm with
        | append => exact Option.isSome_iff_exists.mp hm
        | insert => exact Option.isSome_iff_exists.mp hm
        | get2 => exact absurd rfl hb
      obtain ⟨es', he'⟩ := this
      obtain ⟨p, xs, rfl, h7, _⟩ := lstOf_ok w1 r1 he'
      exact .inl ⟨rfl, xs, .of h7⟩
    · cases e

theorem snd_mthGet {m : Bool} {l : List Expr} {n : Str} {ap cp : Pos} (c : Ck T call N raw sc k X) (h1 : n = mtN .get2) (h2 : isSuper x = false) (h3 : (ap.endLine == cp.line) = true) (h4 : (l.all fun e => !isStar e) = true) (h5 : l ≠ []) (h6 : l.length < 30)
    (ha : PE X x (tyE (kwOf X) (evE call a))) (hbs : PA X l (tyA (kwOf X) (evEs call b))) : PE X (.Call (.Attribute x n ap) l [] cp) (tyE (kwOf X) (evE call (.mth .get2 m a b))) := by
  subst h1
  cases l with
  | nil => exact absurd rfl h5
  | cons e0 es =>
    have hs : isStar e0 = false := by simp only [List.all_cons, Bool.and_eq_true, Bool.not_eq_true'] at h4; exact h4.1
    have hs2 : (es.all fun e => !isStar e) = true := by simp only [List.all_cons, Bool.and_eq_true] at h4; exact h4.2
    refine ⟨fun pins s σ H Q I h => ?_⟩
    obtain ⟨env, W, M, d, M', re, wr, e, q⟩ := h
    simp only [evE, Option.bind_eq_some_iff] at e
    obtain ⟨⟨d1, M1⟩, e1, e⟩ := e
    split at e
    · rename_i hm
      simp only [Option.bind_eq_some_iff] at e
      obtain ⟨⟨ds, M2⟩, e2, e⟩ := e
      refine wpAny_Call_method_late (base_plain h2 _) (few h4 h6) h3 rfl (thn (ha.run pins s σ H _ I ⟨env, W, M, d1, M1, re, wr, e1, fun W1 H1 v x1 w1 r1 => (show (fun v H1 => ∃ W1, Ext W H W1 H1 ∧ WR (kwOf X) W1 M1 H1 ∧ DR (kwOf X) W1 H1 d1 v) v H1 from ⟨W1, x1, w1, r1⟩)⟩) fun v s1 ⟨x, H1, I1, r1, W1, x1, w1, r2⟩ => ?_)
      obtain ⟨kvs, hk⟩ := Option.isSome_iff_exists.mp (show (dicOf M1 d1).isSome = true from hm)
      obtain ⟨n, p, rfl, rfl, _, _, hr⟩ := dicOf_ok w1 r2 hk
      obtain ⟨xs, hx, _, _, _, _, dd⟩ := dic_of I1 hr
      cases (show v = Value.ref p from r1)
      refine ⟨"dict", "dict.get", PySem.F.plainAttrs_dict, PySem.F.slot_dict_get, PySem.F.type_dict_get, dd.typeIs, fun b q => ?_, ?_⟩
      · cases q
        obtain ⟨ob, _, _, g1, g2, _⟩ := dd
        exact ⟨ob, g1, g2.2.1⟩
      have hA := hbs.run cp pins s1 σ H1 (fun vs H2 => rGetN (kwOf X) (.ref p) vs H2 Q) I1 ⟨env, W1, M1, ds, M2, re.mono wr x1, w1, e2, fun W2 H2 vs x2 w2 r3 => semM_ok (b := .get2) w2 (r2.mono w1 x2) r3 e (q.ext (x1.trans x2))⟩
      rw [star_plain hs] at hA ⊢
      refine Calls.callWith_builtin (by show (false || (backTo cp (starEach es X.env)).any (·.1)) = false; rw [back_plain hs2] <;> rfl) (Calls.evalArgs_plain ?_)
      exact thn hA fun us s2 ⟨vs, H2, I2, r2, q2⟩ => mt_getN c.units pins s2 σ H2 (V.ref p) vs _ us Q I2 (show RelV (V.ref p) (Value.ref p) from rfl) r2 q2
    · cases e
/-- *xs -/
theorem pa_star {e : Expr} {p : Pos} {rest : List Expr} (ha : PE X e (tyE (kwOf X) (evE call a))) (hb : PA X rest (tyA (kwOf X) (evEs call b))) : PA X (.Starred e p :: rest) (tyA (kwOf X) (evEs call (.star a b))) := by
  refine ⟨fun pos pins s σ H Q I h => ?_⟩
  obtain ⟨env, W, M, ds, M', re, wr, e1, q⟩ := h
  simp only [evEs, Option.bind_eq_some_iff] at e1
  obtain ⟨⟨d1, M1⟩, e1, xs, e2, ⟨ds2, M2⟩, e3, e4⟩ := e1
  cases e4
  refine PySem.W.items_star (thn (ha.run pins s σ H _ I ⟨env, W, M, d1, M1, re, wr, e1, fun W1 H1 v x1 w1 r1 => (show (fun v H1 => ∃ W1, Ext W H W1 H1 ∧ WR (kwOf X) W1 M1 H1 ∧ DR (kwOf X) W1 H1 d1 v) v H1 from ⟨W1, x1, w1, r1⟩)⟩) fun u s1 ⟨v, H1, I1, ru, W1, x1, w1, r1⟩ => ?_)
  obtain ⟨l, vs, rfl, h1, r2⟩ := seqOf_ok w1 r1 e2
  cases ru
  have fin : ∀ (its : List Value) (h' : Heap), Vals vs its → (∀ b o, s1.heap.get? b = some o → h'.get? b = some o) → wpAny (model X.prog X.w) X.A (spliced (backTo pos (starEach rest X.env))) (fun us s3 => AP X pins σ Q (its ++ us) s3) X.xe { s1 with heap := h' } := by
    intro its h' rv k
    have I2 : Inv X pins σ H1 { s1 with heap := h' } := I1.kept (t' := s1.toks) k
    refine thn (hb.run pos pins _ σ H1 _ I2 ⟨env, W1, M1, ds2, _, re.mono wr x1, w1, e3, fun W3 H3 us x3 w3 r3 => (show (fun us H3 => Q (vs ++ us) H3) us H3 from q W3 H3 _ (x1.trans x3) w3 ((r2.mono w1 x3).app r3))⟩) fun ws s3 ⟨us, H3, I3, r3, q3⟩ => ⟨vs ++ us, H3, I3, vals_app rv r3, q3⟩
  rcases h1 with h1 | h1
  · obtain ⟨its, rv, ⟨o, n, ho, hc, hd, hs⟩, hz⟩ := I1.list h1
    have z : wpAny (model X.prog X.w) X.A (collect (.ref l)) (fun here s₂ => wpAny (model X.prog X.w) X.A (spliced (backTo pos (starEach rest X.env))) (fun vs s₃ => AP X pins σ Q (here ++ vs) s₃) X.xe s₂) X.xe s1 := by
      refine wpAny_collect_seq l (T := "list") (.inl rfl) ho hc hs (fun h' k => ?_) (by simpa [← rv.length] using hz)
      rw [List.toList_toArray]
      exact fin its h' rv k
    unfold PySem.W.StarOf notIterableAtAll
    exact wpAny_bind (wpAny_specialOf ⟨o, ho, hc⟩ PySem.F.slot_list_iter.lookup (wpAny_pure ⟨rfl, z⟩))
  · obtain ⟨its, rv, ⟨o, ho, hc, n, hd⟩, hz⟩ := I1.tuple h1
    have z : wpAny (model X.prog X.w) X.A (collect (.ref l)) (fun here s₂ => wpAny (model X.prog X.w) X.A (spliced (backTo pos (starEach rest X.env))) (fun vs s₃ => AP X pins σ Q (here ++ vs) s₃) X.xe s₂) X.xe s1 := by
      refine wpAny_collect_seq l (T := "tuple") (.inr rfl) ho hc hd (fun h' k => ?_) (by simpa [← rv.length] using hz)
      rw [List.toList_toArray]
      exact fin its h' rv k
    unfold PySem.W.StarOf notIterableAtAll
    exact wpAny_bind (wpAny_specialOf ⟨o, ho, hc⟩ PySem.F.slot_tuple_iter.lookup (wpAny_pure ⟨rfl, z⟩))

/-! ### calls with keywords -/
theorem DRs.getD {K : Kw} {W : Wd} {H : Hp} {ds : List D} {vs : List V} (r : DRs K W H ds vs) (j : Nat) : DR K W H (ds.getD j .non) (vs.getD j .non) := by
  rw [List.getD_eq_getElem?_getD, List.getD_eq_getElem?_getD]
  by_cases h : j < ds.length
  · rw [List.getElem?_eq_getElem h]
    obtain ⟨v, e, r1⟩ := r.get (List.getElem?_eq_getElem h)
    rw [e]
    exact r1
  · rw [List.getElem?_eq_none (by omega), List.getElem?_eq_none (by rw [← r.length]; omega)]
    exact dr_non
theorem DRs.perm {K : Kw} {W : Wd} {H : Hp} {ds es : List D} {vs us : List V} (perm : List Nat) (r : DRs K W H ds vs) (q : DRs K W H es us) : DRs K W H (perm.map fun j => (ds ++ es).getD j .non) (permV perm vs us) := by
  have a := r.app q
  unfold permV
  induction perm with
  | nil => exact .nil
  | cons j l ih => exact .cons (a.getD j) ih
theorem pk_imp {kws : List Keyword} {t t' : TA} (h : PK X kws t) (hi : ∀ σ H Q, t' σ H Q → t σ H Q) : PK X kws t' := ⟨fun pos pins s σ H Q I q => h.run pos pins s σ H Q I (hi σ H Q q)⟩
theorem snd_knil : PK X [] (tyA (kwOf X) (evEs call .nil)) := pk_imp pk_nil fun σ H Q ⟨env, W, M, ds, M', re, wr, e, q⟩ => by
  simp only [evEs] at e
  cases e
  exact q W H [] wr.refl wr .nil
theorem snd_kcons {nm : Option Str} {kpos : Pos} {l : List Keyword} (ha : PE X x (tyE (kwOf X) (evE call a))) (hb : PK X l (tyA (kwOf X) (evEs call b))) : PK X (⟨nm, x, kpos⟩ :: l) (tyA (kwOf X) (evEs call (.cons a b))) :=
  pk_imp (pk_cons ha hb) fun σ H Q ⟨env, W, M, ds, M', re, wr, e, q⟩ => by
    simp only [evEs, Option.bind_eq_some_iff] at e
    obtain ⟨⟨d1, M1⟩, e1, ⟨d2, M2⟩, e2, e⟩ := e
    cases e
    exact ⟨env, W, M, d1, M1, re, wr, e1, fun W1 H1 v1 x1 w1 r1 => ⟨env, W1, M1, d2, M2, re.mono wr x1, w1, e2, fun W2 H2 vs x2 w2 r2 => q W2 H2 _ (x1.trans x2) w2 (.cons (r1.mono w1 x2) r2)⟩⟩
theorem kw_names {env : Env} {pos : Pos} : ∀ {kws : List Keyword}, (backToKw pos (keywordEach kws env)).filterMap (·.1) = kwNames kws
  | [] => rfl
  | ⟨none, v, p⟩ :: l => by
    show ((none, _) :: backToKw pos (keywordEach l env)).filterMap (·.1) = (⟨none, v, p⟩ :: l).filterMap (·.arg)
    simp only [List.filterMap_cons]
    exact kw_names
  | ⟨some n, v, p⟩ :: l => by
    show ((some n, _) :: backToKw pos (keywordEach l env)).filterMap (·.1) = (⟨some n, v, p⟩ :: l).filterMap (·.arg)
    simp only [List.filterMap_cons]
    exact congrArg _ kw_names
def kwAll (kws : List Keyword) : Bool := kws.all fun k => k.arg.isSome
theorem kw_all {env : Env} {pos : Pos} : ∀ {kws : List Keyword}, kwAll kws = true → (backToKw pos (keywordEach kws env)).all (·.1.isSome) = true ∧ (backToKw pos (keywordEach kws env)).any (·.1.isNone) = false
  | [], _ => ⟨rfl, rfl⟩
  | ⟨none, v, p⟩ :: l, h => by simp [kwAll] at h
  | ⟨some n, v, p⟩ :: l, h => by
    have h' : kwAll l = true := by simpa [kwAll] using h
    obtain ⟨a, b⟩ := kw_all (env := env) (pos := pos) h'
    exact ⟨by show (true && (backToKw pos (keywordEach l env)).all (·.1.isSome)) = true; rw [a]; rfl, by show (false || (backToKw pos (keywordEach l env)).any (·.1.isNone)) = false; rw [b]; rfl⟩
theorem snd_callk {f : Nat} {perm : List Nat} {es ks : E} {xn : Str} {p : Pos} {l : List Expr} {kws : List Keyword} (c : Ck T call N raw sc k X) (h1 : T.fn[f]? = some xn) (h2 : DL.gl sc xn = true) (h3 : (l.all fun e => !isStar e) = true) (h4 : (f, l.length, kwNames kws, perm) ∈ T.kw) (h5 : kwAll kws = true)
    (ha : PA X l (tyA (kwOf X) (evEs call es))) (hk : PK X kws (tyA (kwOf X) (evEs call ks))) (hn : l = [] → es = .nil) (le : ∀ env M r, evEs call es env M = some r → r.1.length = l.length) (lk : ∀ env M r, evEs call ks env M = some r → r.1.length = (kwNames kws).length) : PE X (.Call (.Name xn p) l kws pos) (tyE (kwOf X) (evE call (.callk f perm es ks))) := by
  obtain ⟨g1, g2, g3⟩ := c.gl h2
  obtain ⟨ps, fa, fd, hp, F, hm, hkp, hb, hkb⟩ := c.g.fns f xn h1
  have kb := hkb _ _ _ h4
  obtain ⟨ka, kn⟩ := kw_all (env := X.env) (pos := pos) h5
  refine ⟨fun pins s σ H Q I h => ?_⟩
  obtain ⟨env, W, M, d, M', re, wr, e, q⟩ := h
  simp only [evE, Option.bind_eq_some_iff] at e
  obtain ⟨⟨ds, M1⟩, e1, ⟨ds2, M2⟩, e2, e⟩ := e
  obtain ⟨ps', hp', hl⟩ := c.g.np f _ M2 _ e
  rw [hp] at hp'; cases hp'
  have l1 := le _ _ _ e1
  have l2 := lk _ _ _ e2
  refine wpAny_Call_Name_kw (ld_glob I g1 hm ?_ g2)
  have fin : ∀ (us : List Value) (s1 : Shared) (vs : List V) (W1 : Wd) (H1 : Hp), Inv X pins σ H1 s1 → Vals vs us → Ext W H W1 H1 → WR (kwOf X) W1 M1 H1 → DRs (kwOf X) W1 H1 ds vs →
      wpAny (model X.prog X.w) X.A (evalAll ((backToKw pos (keywordEach kws X.env)).map (·.2))) (fun ws s2 => X.K.In s2.heap ∧ wpAny (model X.prog X.w) X.A (PySem.call (.ref fa) us (((backToKw pos (keywordEach kws X.env)).filterMap (·.1)).zip ws)) (EP X pins σ Q) X.xe s2) X.xe s1 := by
    intro us s1 vs W1 H1 I1 r1 x1 w1 rd1
    refine thn (hk.run pos pins s1 σ H1 _ I1 ⟨env, W1, M1, ds2, M2, re.mono wr x1, w1, e2, fun W2 H2 zs x2 w2 r2 => (show (fun zs H2 => zs.length = ds2.length ∧ ∃ W2, Ext W1 H1 W2 H2 ∧ WR (kwOf X) W2 M2 H2 ∧ DRs (kwOf X) W2 H2 ds2 zs) zs H2 from ⟨r2.length.symm, W2, x2, w2, r2⟩)⟩) fun ws s2 ⟨zs, H2, I2, rz, hz, W2, x2, w2, r2⟩ => ⟨I2.kIn, ?_⟩
    rw [kw_names]
    exact run_fnN (n := l.length) F c.room kb pass0 I2 r1 rz (rd1.length.symm.trans l1) (hz.trans l2) ⟨by rw [← hl]; unfold permV; rw [List.length_map, List.length_map], W2, M2, _, d, M', w2, (rd1.mono w1 x2).perm perm r2, e, q.ext (x1.trans x2)⟩
  cases l with
  | nil =>
    refine PySem.W.callWith_KW0 (h₀ := X.base) I.ok.mod.kin hkp ka ?_ (by rw [kn]; rfl)
    obtain rfl := hn rfl
    simp only [evEs] at e1
    cases e1
    exact fin [] s [] W H I .nil wr.refl wr .nil
  | cons e0 es0 =>
    simp only [List.all_cons, Bool.and_eq_true, Bool.not_eq_true'] at h3
    have hpl : (backTo pos (starEach (e0 :: es0) X.env)).any (·.1) = false := by
      rw [star_plain h3.1]
      show (false || (backTo pos (starEach es0 X.env)).any (·.1)) = false
      rw [back_plain (by simpa using h3.2)]; rfl
    refine PySem.W.callWith_KW (h₀ := X.base) I.ok.mod.kin hkp ka ?_ (by rw [hpl, kn]; rfl) (star_plain h3.1)
    refine thn (ha.run pos pins s σ H _ I ⟨env, W, M, ds, M1, re, wr, e1, fun W1 H1 vs x1 w1 r1 => (show (fun vs H1 => ∃ W1, Ext W H W1 H1 ∧ WR (kwOf X) W1 M1 H1 ∧ DRs (kwOf X) W1 H1 ds vs) vs H1 from ⟨W1, x1, w1, r1⟩)⟩) fun us s1 ⟨vs, H1, I1, r1, W1, x1, w1, rd1⟩ => ?_
    exact fin us s1 vs W1 H1 I1 r1 x1 w1 rd1

/-! ### {}, sorted(set(..)), two clauses -/
theorem snd_dict0 : PE X (.Dict [] [] pos) (tyE (kwOf X) (evE call (.dict0 true))) :=
  pe_imp pe_dnewN fun σ H Q ⟨env, W, M, d, M', re, wr, e, q⟩ p hp => by
    simp only [evE, if_true] at e
    cases e
    obtain ⟨w', x'⟩ := wr.pushO (mo := .dic []) (ho := dicO (kwOf X) p []) hp fun W' H' x e => ⟨[], e, .nil⟩
    exact q _ _ _ x' w' (dr_ref (by simp [wr.len]))
theorem snd_sset {m : Bool} {xn yn : Str} {p py p2 : Pos} (c : Ck T call N raw sc k X) (h1 : xn = "sorted") (h2 : DL.gl sc xn = true) (h3 : xn ∈ T.bl) (h4 : yn = "set") (h5 : DL.gl sc yn = true) (h6 : yn ∈ T.bl) (hs : isStar z = false) (ha : PE X z (tyE (kwOf X) (evE call a))) :
    PE X (.Call (.Name xn p) [.Call (.Name yn py) [z] [] p2] [] pos) (tyE (kwOf X) (evE call (.sset m a))) := by
  subst h1 h4
  have u64 : X.A.units + 64 < cLine := by have := c.units; omega
  have inner : PE X (.Call (.Name "set" py) [z] [] p2) (tCB (rSetOfT X.K X.prog X.w) (tCons (tyE (kwOf X) (evE call a)) tNil)) :=
    pe_callTy (cr_setOfT c.calm u64) (c.gl h5).1 (c.g.bls _ h6) PyProof.Rows.boot_set (pa_cons ha pa_nil (star_plain hs)) (c.gl h5).2.2 (c.gl h5).2.1 (star_plain hs) (by rfl)
  have outer : PE X (.Call (.Name "sorted" p) [.Call (.Name "set" py) [z] [] p2] [] pos) (tCB (rSortSet2 X.K X.prog X.w) (tCons (tCB (rSetOfT X.K X.prog X.w) (tCons (tyE (kwOf X) (evE call a)) tNil)) tNil)) :=
    pe_callB (cr_sortSet2 c.calm c.units) (c.gl h2).1 (c.g.bls _ h3) (by decide +kernel) (pa_cons inner pa_nil (star_plain rfl)) (c.gl h2).2.2 (c.gl h2).2.1 (star_plain rfl) (by rfl)
  refine pe_imp outer fun σ H Q ⟨env, W, M, d, M', re, wr, e, q⟩ => ?_
  simp only [evE, Option.bind_eq_some_iff] at e
  obtain ⟨⟨d1, M1⟩, e1, e⟩ := e
  simp only [semB, Option.bind_eq_bind, Option.bind_eq_some_iff] at e
  obtain ⟨ds, e2, e⟩ := e
  split at e
  · rename_i hp
    refine ⟨env, W, M, d1, M1, re, wr, e1, fun W1 H1 v x1 w1 r1 => ?_⟩
    obtain ⟨l, xs, rfl, h8, r2⟩ := lstOf_ok w1 r1 e2
    obtain ⟨ks, ek, ed, hk⟩ := set_rows r2 hp.1
    subst ek
    refine ⟨l, ks, rfl, .of h8, fun p m => (hk p m).2.1, by rw [ed, List.length_map] at hp; exact hp.2, fun a2 L ha2 hL hA => ?_⟩
    have w2 := w1.new (o := SetTO X.prog X.w a2 L) ha2
    have x2 := ext_new (o := SetTO X.prog X.w a2 L) w1 ha2
    refine ⟨a2, L, rfl, upd_same, fun p m => ?_, fun p m => (hk p (hL p m)).1, fun L' p2 pm nd so hp2 => ?_⟩
    · have rp := (hk p (hL p m)).2.2.mono w1 x2
      have hl := (hk p (hL p m)).1
      unfold toP at rp
      simp only [DR] at rp
      obtain ⟨t, ys, e3, ht, rs⟩ := rp
      cases e3
      simp only [DRs, DR] at rs
      obtain ⟨v1, l1, rfl, rfl, v2, l2, rfl, rfl, rfl⟩ := rs
      rw [len2 hl]
      exact ht.sqt
    · have er := rows_sorted ed hp.1 (fun p m => (hk p m).1) hL hA pm nd so
      have rr : DRs (kwOf X) W1 (upd H1 a2 (SetTO X.prog X.w a2 L)) (sortP (dedupD ds)) (L'.map fun q => V.ref q.1) := by
        rw [← er]
        have : ∀ l : List (Addr × List Int), (∀ q ∈ l, q ∈ ks) → DRs (kwOf X) W1 (upd H1 a2 (SetTO X.prog X.w a2 L)) (l.map toP) (l.map fun q => V.ref q.1) := by
          intro l
          induction l with
          | nil => intro _; exact .nil
          | cons q l ih => intro hq; exact .cons ((hk q (hq q List.mem_cons_self)).2.2.mono w1 x2) (ih fun r m => hq r (List.mem_cons_of_mem _ m))
        exact this L' fun q m => hL q (pm.mem_iff.mp m)
      exact newL_ok w2 rr e (q.ext (x1.trans x2)) p2 hp2
  · cases e
theorem snd_comp2 {t t1 : Tg} {own own1 : List Nat} {it it1 elt : E} {m : Bool} {tg iter tg1 iter1 el : Expr} {scope : Scope} (c : Ck T call N raw sc k X) (hb : blkC N sc scope (own.map fun i => (N.getD i "", i)) = true) (hv : ∀ i ∈ own1, i ∈ own) (ht : tgIn t own = true) (ht1 : tgIn t1 own1 = true)
    (hc : chkT N scope t tg = true) (hc1 : chkT N scope t1 tg1 = true) (hs : isSetE iter = false) (hs1 : isSetE iter1 = false)
    (hi : PI X tg iter (tyI (kwOf X) (evIt call it))) (hi1 : ∀ Y, Ck T call N scope (relS scope sc) k Y → PI Y tg1 iter1 (tyI (kwOf Y) (evIt call it1))) (hel : ∀ Y, Ck T call N scope (relS scope sc) k Y → PE Y el (tyE (kwOf Y) (evE call elt))) :
    PE X (.ListComp el [⟨tg, iter, [], 0⟩, ⟨tg1, iter1, [], 0⟩] scope pos) (tyE (kwOf X) (evE call (.comp2 m t own it t1 own1 it1 elt))) := by
  have ok : BlkOk X.N X.env.scope scope (own.map fun i => (N.getD i "", i)) := by
    rw [c.hN, c.hsc]; exact blkOk_by hb
  have ho : (own.map fun i => (N.getD i ("" : Str), i)).map (·.2) = own := by
    rw [List.map_map]
    conv => rhs; rw [← List.map_id own]
    rfl
  have hg := (good_of (N := N) (raw := scope) (t := t)).1 hc
  have hg1 := (good_of (N := N) (raw := scope) (t := t1)).1 hc1
  have pe := pe_lc2 (X := X) (pos := pos) (own := own.map fun i => (N.getD i "", i)) (vs1 := own1) (ifs := []) (ifs1 := []) (g := gOf X.K t) (g1 := gOf X.K t1) (te := tyE (kwOf X) (evE call elt)) (wi1 := tyI (kwOf X) (evIt call it1)) c.calm (by rw [c.hN]; exact c.nd) hi ok (fun i hi => by rw [ho]; exact hv i hi)
    (fun s H C cl fp => (pg_all (c.blk (s := s) (H := H) (scope := scope) (C := C) (cl := cl) (fp := fp)) t).1 tg hc) (fun s H C cl fp => pts_nil) (fun s H C cl fp => hi1 _ c.blk)
    (fun s H C cl fp => (pg_all (c.blk (s := s) (H := H) (scope := scope) (C := C) (cl := cl) (fp := fp)) t1).1 tg1 hc1) (fun s H C cl fp => pts_nil) (fun s H C cl fp => hel _ c.blk) (fold_plain hs) (fun env => fold_plain hs1)
  rw [ho] at pe
  refine pe_imp pe fun σ H Q ⟨env, W, M, d, M', re, wr, e, q⟩ => ?_
  simp only [evE, Option.bind_eq_some_iff] at e
  obtain ⟨⟨I, M1⟩, e1, ⟨accF, M2⟩, e2, e3⟩ := e
  exact ⟨env, W, M, I, M1, re, wr, e1, fun W1 H1 J x1 w1 ok1 D hD => comp2_turns hg ht hg1 ht1 w1 (re.mono wr x1) ok1 e2 e3 (q.ext x1) hD (fun _ _ _ q => q) (fun _ _ _ q => q)⟩
end
end DL

set_option maxRecDepth 100000
namespace DL
open PySem PySem.Spec PyProof.Rows L2

structure SndE (T : Tab) (call : CallF) (e : E) : Prop where
  pe : ∀ {k N raw sc X x}, Ck T call N raw sc k X → chkE T N e raw sc x = true → PE X x (tyE (kwOf X) (evE call e))
  pt : ∀ {k N raw sc X x}, Ck T call N raw sc k X → chkE T N e raw sc x = true → PT X x (tyT (kwOf X) (evT call e))
  pa : ∀ {k N raw sc X l}, Ck T call N raw sc k X → chkEs T N e raw sc l = true → PA X l (tyA (kwOf X) (evEs call e))
  pk : ∀ {k N raw sc X l}, Ck T call N raw sc k X → chkK T N e raw sc l = true → PK X l (tyA (kwOf X) (evEs call e))
  po : ∀ {k N raw sc X} {l : Option Expr}, Ck T call N raw sc k X → chkEs T N e raw sc l.toList = true → (l.toList.all fun x => !isStar x) = true → PO X l (tyO (kwOf X) (evEs call e))
  pbA : ∀ {k N raw sc X l}, Ck T call N raw sc k X → chkB T N true e raw sc l = true → l ≠ [] ∧ ∀ pos, PE X (.BoolOp .And l pos) (tyE (kwOf X) (evE call e)) ∧ PW X (.BoolOp .And l pos) (tyT (kwOf X) (evT call e))
  pbO : ∀ {k N raw sc X l}, Ck T call N raw sc k X → chkB T N false e raw sc l = true → l ≠ [] ∧ ∀ pos, PE X (.BoolOp .Or l pos) (tyE (kwOf X) (evE call e)) ∧ PW X (.BoolOp .Or l pos) (tyT (kwOf X) (evT call e))
  pi : ∀ {k N raw sc X x tup}, Ck T call N raw sc k X → chkI T N e raw sc tup x = true → isSetE x = false ∧ ∀ tg, (tup = true → ∃ elts kk pos, tg = .Tuple elts kk pos) → PI X tg x (tyI (kwOf X) (evIt call e))

section
variable {T : Tab} {call : CallF} {N : List Str} {raw sc : Scope} {k : Nat} {X : Cx}
theorem snd_truth {e : E} {x : Expr} (he : ∀ whole, isTrue x X.env whole = (do let v ← whole; standAt x.pos; holding [v] (truthy v))) (ha : PE X x (tyE (kwOf X) (evE call e)))
    (hv : ∀ env M, evT call e env M = (evE call e env M).bind fun p => (truth p.2 p.1).map fun b => (b, p.2)) : PT X x (tyT (kwOf X) (evT call e)) :=
  pt_imp (pt_truth ha he) fun σ H Q ⟨env, W, M, b, M', re, wr, e1, q⟩ => by
    rw [hv] at e1
    simp only [Option.bind_eq_some_iff, Option.map_eq_some_iff] at e1
    obtain ⟨⟨d, M1⟩, e2, r, e3, e4⟩ := e1
    cases e4
    exact ⟨env, W, M, d, _, re, wr, e2, fun W1 H1 v1 x1 w1 r1 => ⟨_, truth_ok w1 r1 e3, (q.ext x1).now w1⟩⟩
/-- e is no list, no rest, no iterator -/
theorem mkE {e : E} (pe : ∀ {k N raw sc X x}, Ck T call N raw sc k X → chkE T N e raw sc x = true → PE X x (tyE (kwOf X) (evE call e)))
    (pt : ∀ {k N raw sc X x}, Ck T call N raw sc k X → chkE T N e raw sc x = true → PT X x (tyT (kwOf X) (evT call e)))
    (h1 : ∀ N raw sc l, chkEs T N e raw sc l = false) (h2 : ∀ N c raw sc l, chkB T N c e raw sc l = false) (h3 : ∀ N raw sc t x, chkI T N e raw sc t x = false) (h4 : ∀ N raw sc l, chkK T N e raw sc l = false := by intro _ _ _ _; simp [chkK]) : SndE T call e where
  pe := pe
  pt := pt
  pa := fun c h => by rw [h1] at h; cases h
  pk := fun c h => by rw [h4] at h; cases h
  po := fun c h _ => by rw [h1] at h; cases h
  pbA := fun c h => by rw [h2] at h; cases h
  pbO := fun c h => by rw [h2] at h; cases h
  pi := fun c h => by rw [h3] at h; cases h
theorem mkI {e : E} (h0 : ∀ N raw sc x, chkE T N e raw sc x = false) (h1 : ∀ N raw sc l, chkEs T N e raw sc l = false) (h2 : ∀ N c raw sc l, chkB T N c e raw sc l = false)
    (pi : ∀ {k N raw sc X x tup}, Ck T call N raw sc k X → chkI T N e raw sc tup x = true → isSetE x = false ∧ ∀ tg, (tup = true → ∃ elts kk pos, tg = .Tuple elts kk pos) → PI X tg x (tyI (kwOf X) (evIt call e))) (h4 : ∀ N raw sc l, chkK T N e raw sc l = false := by intro _ _ _ _; simp [chkK]) : SndE T call e where
  pe := fun c h => by rw [h0] at h; cases h
  pt := fun c h => by rw [h0] at h; cases h
  pa := fun c h => by rw [h1] at h; cases h
  pk := fun c h => by rw [h4] at h; cases h
  po := fun c h _ => by rw [h1] at h; cases h
  pbA := fun c h => by rw [h2] at h; cases h
  pbO := fun c h => by rw [h2] at h; cases h
  pi := pi
end

theorem chkEs_nil {T : Tab} {N : List Str} {raw sc : Scope} {es : E} (h : chkEs T N es raw sc [] = true) : es = .nil := by
  cases es <;> first | rfl | (simp [chkEs] at h)
theorem chkEs_len {T : Tab} {call : CallF} {N : List Str} {raw sc : Scope} : ∀ {es : E} {l : List Expr} {env : En} {M : Mm} {r : List D × Mm}, (l.all fun e => !isStar e) = true → chkEs T N es raw sc l = true → evEs call es env M = some r → r.1.length = l.length
  | .nil, l, env, M, r, hs, h, e => by
    simp only [evEs] at e; cases e
    cases l with
    | nil => rfl
    | cons _ _ => simp [chkEs] at h
  | .cons a es, l, env, M, r, hs, h, e => by
    cases l with
    | nil => simp [chkEs] at h
    | cons x l =>
      simp only [chkEs, Bool.and_eq_true] at h
      simp only [List.all_cons, Bool.and_eq_true] at hs
      simp only [evEs, Option.bind_eq_some_iff] at e
      obtain ⟨p, e1, q, e2, e3⟩ := e
      cases e3
      rw [List.length_cons, List.length_cons]
      exact congrArg _ (chkEs_len hs.2 h.2 e2)
  | .star a es, l, env, M, r, hs, h, e => by
    cases l with
    | nil => simp [chkEs] at h
    | cons x l =>
      cases x <;> first | (simp [chkEs] at h; done) | (simp [isStar] at hs)
  | .var _, l, _, _, _, _, h, _ | .con _, l, _, _, _, _, h, _ | .glo _ _, l, _, _, _, _, h, _ | .tup _, l, _, _, _, _, h, _ | .lis _ _, l, _, _, _, _, h, _ | .dict0 _, l, _, _, _, _, h, _ | .op _ _ _ _, l, _, _, _, _, h, _
  | .cmp _ _ _, l, _, _, _, _, h, _ | .cmp2 _ _ _ _ _, l, _, _, _, _, h, _ | .neg _, l, _, _, _, _, h, _ | .and _ _, l, _, _, _, _, h, _ | .or _ _, l, _, _, _, _, h, _ | .one _, l, _, _, _, _, h, _ | .not _, l, _, _, _, _, h, _
  | .ite _ _ _, l, _, _, _, _, h, _ | .idx _ _, l, _, _, _, _, h, _ | .sli _ _ _ _, l, _, _, _, _, h, _ | .call _ _, l, _, _, _, _, h, _ | .callk _ _ _ _, l, _, _, _, _, h, _ | .blt _ _ _, l, _, _, _, _, h, _ | .sset _ _, l, _, _, _, _, h, _
  | .isi _ _, l, _, _, _, _, h, _ | .mth _ _ _ _, l, _, _, _, _, h, _ | .comp _ _ _ _ _ _, l, _, _, _, _, h, _ | .comp2 _ _ _ _ _ _ _ _, l, _, _, _, _, h, _ | .yes, l, _, _, _, _, h, _ | .iseq _, l, _, _, _, _, h, _
  | .irange1 _, l, _, _, _, _, h, _ | .irange2 _ _, l, _, _, _, _, h, _ | .irange3 _ _ _, l, _, _, _, _, h, _ | .ienum _, l, _, _, _, _, h, _ | .izip _ _, l, _, _, _, _, h, _ => by simp [chkEs] at h
theorem chkK_all {T : Tab} {N : List Str} {raw sc : Scope} : ∀ {l : List Keyword} {ks : E}, chkK T N ks raw sc l = true → kwAll l = true
  | [], _, _ => rfl
  | ⟨nm, x, p⟩ :: l, ks, h => by
    cases ks <;> (try (simp [chkK] at h; done))
    cases nm with
    | none => simp [chkK] at h
    | some nm =>
      simp only [chkK, Bool.and_eq_true] at h
      have := chkK_all h.2
      simpa [kwAll] using this
theorem chkK_names {T : Tab} {N : List Str} {raw sc : Scope} : ∀ {l : List Keyword} {ks : E}, chkK T N ks raw sc l = true → (kwNames l).length = l.length
  | [], _, _ => rfl
  | ⟨nm, x, p⟩ :: l, ks, h => by
    cases ks <;> (try (simp [chkK] at h; done))
    cases nm with
    | none => simp [chkK] at h
    | some nm =>
      simp only [chkK, Bool.and_eq_true] at h
      have := chkK_names h.2
      simpa [kwNames] using this
theorem chkK_len {T : Tab} {call : CallF} {N : List Str} {raw sc : Scope} : ∀ {l : List Keyword} {ks : E} {env : En} {M : Mm} {r : List D × Mm}, chkK T N ks raw sc l = true → evEs call ks env M = some r → r.1.length = l.length
  | [], ks, env, M, r, h, e => by
    cases ks <;> (try (simp [chkK] at h; done))
    simp only [evEs] at e; cases e; rfl
  | ⟨nm, x, p⟩ :: l, ks, env, M, r, h, e => by
    cases ks <;> (try (simp [chkK] at h; done))
    cases nm with
    | none => simp [chkK] at h
    | some nm =>
      simp only [chkK, Bool.and_eq_true] at h
      simp only [evEs, Option.bind_eq_some_iff] at e
      obtain ⟨p, e1, q, e2, e3⟩ := e
      cases e3
      rw [List.length_cons, List.length_cons]
      exact congrArg _ (chkK_len h.2 e2)
theorem opIs_eq {o : Op} {p : Operator} (h : opIs o p = true) : p = opPy o := (eq_of_beq h).symm
theorem cmIs_eq {o : Cm} {p : CmpOp} (h : cmIs o p = true) : p = cmPy o := (eq_of_beq h).symm

set_option maxHeartbeats 4000000 in
theorem sndE (T : Tab) (call : CallF) : ∀ e : E, SndE T call e := by
  intro e
  induction e with
  | var i =>
    have pe : ∀ {k N raw sc X x}, Ck T call N raw sc k X → chkE T N (.var i) raw sc x = true → PE X x (tyE (kwOf X) (evE call (.var i))) := fun {k N raw sc X x} c h => by
      cases x with
      | Name x pos =>
        simp only [chkE, Bool.and_eq_true, decide_eq_true_eq] at h
        exact snd_var c h.1.1 h.1.2 h.2
      | _ => simp [chkE] at h
    refine mkE pe (fun {k N raw sc X x} c h => ?_) (fun _ _ _ _ => by simp [chkEs]) (fun _ _ _ _ _ => by simp [chkB]) (fun _ _ _ _ _ => by simp [chkI])
    have h' := h
    cases x with
    | Name x pos =>
      refine snd_truth (fun _ => rfl) (pe c h) fun env M => ?_
      simp only [evT, evE]
      split <;> rfl
    | _ => simp [chkE] at h
  | con d =>
    refine mkE (fun {k N raw sc X x} c h => ?_) (fun c h => pt_no fun _ _ => by simp [evT]) (fun _ _ _ _ => by simp [chkEs]) (fun _ _ _ _ _ => by simp [chkB]) (fun _ _ _ _ _ => by simp [chkI])
    cases x with
    | Constant cc kk pos => exact snd_con (by simpa [chkE] using h)
    | _ => simp [chkE] at h
  | glo j d =>
    refine mkE (fun {k N raw sc X x} c h => ?_) (fun c h => pt_no fun _ _ => by simp [evT]) (fun _ _ _ _ => by simp [chkEs]) (fun _ _ _ _ _ => by simp [chkB]) (fun _ _ _ _ _ => by simp [chkI])
    cases x with
    | Name x pos =>
      simp only [chkE, Bool.and_eq_true, decide_eq_true_eq] at h
      exact snd_glo c h.1 h.2
    | _ => simp [chkE] at h
  | tup es ih =>
    refine mkE (fun {k N raw sc X x} c h => ?_) (fun c h => pt_no fun _ _ => by simp [evT]) (fun _ _ _ _ => by simp [chkEs]) (fun _ _ _ _ _ => by simp [chkB]) (fun _ _ _ _ _ => by simp [chkI])
    cases x with
    | Tuple l kk pos => exact snd_tup (ih.pa c (by simpa [chkE] using h))
    | _ => simp [chkE] at h
  | lis m es ih =>
    refine mkE (fun {k N raw sc X x} c h => ?_) (fun c h => pt_no fun _ _ => by simp [evT]) (fun _ _ _ _ => by simp [chkEs]) (fun _ _ _ _ _ => by simp [chkB]) (fun _ _ _ _ _ => by simp [chkI])
    cases x with
    | List l pos => exact snd_lis (ih.pa c (by simpa [chkE] using h))
    | _ => simp [chkE] at h
  | dict0 n =>
    refine mkE (fun {k N raw sc X x} c h => ?_) (fun c h => pt_no fun _ _ => by simp [evT]) (fun _ _ _ _ => by simp [chkEs]) (fun _ _ _ _ _ => by simp [chkB]) (fun _ _ _ _ _ => by simp [chkI])
    cases x with
    | Dict ks vs pos =>
      cases ks with
      | nil =>
        cases vs with
        | nil =>
          have hn : n = true := by simpa [chkE] using h
          subst hn
          exact snd_dict0
        | cons _ _ => simp [chkE] at h
      | cons _ _ => simp [chkE] at h
    | _ => simp [chkE] at h
  | nil =>
    exact { pe := fun {k N raw sc X x} c h => by cases x <;> simp [chkE] at h
            pt := fun {k N raw sc X x} c h => by cases x <;> simp [chkE] at h
            pa := fun {k N raw sc X l} c h => by
              cases l with
              | nil => exact snd_nil
              | cons _ _ => simp [chkEs] at h
            pk := fun {k N raw sc X l} c h => by
              cases l with
              | nil => exact snd_knil
              | cons _ _ => simp [chkK] at h
            po := fun {k N raw sc X l} c h hs => by
              cases l with
              | none => exact po_nil
              | some _ => simp [chkEs] at h
            pbA := fun c h => by simp [chkB] at h
            pbO := fun c h => by simp [chkB] at h
            pi := fun c h => by simp [chkI] at h }
  | cons a r iha ihr =>
    exact { pe := fun {k N raw sc X x} c h => by cases x <;> simp [chkE] at h
            pt := fun {k N raw sc X x} c h => by cases x <;> simp [chkE] at h
            pa := fun {k N raw sc X l} c h => by
              cases l with
              | nil => simp [chkEs] at h
              | cons x l =>
                simp only [chkEs, Bool.and_eq_true, Bool.not_eq_true'] at h
                exact snd_cons h.1.1 (iha.pe c h.1.2) (ihr.pa c h.2)
            pk := fun {k N raw sc X l} c h => by
              rcases l with _ | ⟨⟨nm, x, kp⟩, l⟩
              · simp [chkK] at h
              · cases nm with
                | none => simp [chkK] at h
                | some nm =>
                  simp only [chkK, Bool.and_eq_true] at h
                  exact snd_kcons (iha.pe c h.1) (ihr.pk c h.2)
            po := fun {k N raw sc X l} c h hs => by
              cases l with
              | none => simp [chkEs] at h
              | some x =>
                simp only [Option.toList, chkEs, Bool.and_eq_true, Bool.not_eq_true'] at h
                cases r with
                | nil => exact po_one (iha.pe c h.1.2)
                | _ => simp [chkEs] at h
            pbA := fun c h => by simp [chkB] at h
            pbO := fun c h => by simp [chkB] at h
            pi := fun c h => by simp [chkI] at h }
  | star a r iha ihr =>
    exact { pe := fun {k N raw sc X x} c h => by cases x <;> simp [chkE] at h
            pt := fun {k N raw sc X x} c h => by cases x <;> simp [chkE] at h
            pa := fun {k N raw sc X l} c h => by
              cases l with
              | nil => simp [chkEs] at h
              | cons x l =>
                cases x with
                | Starred y p =>
                  simp only [chkEs, Bool.and_eq_true] at h
                  exact pa_star (iha.pe c h.1) (ihr.pa c h.2)
                | _ => simp [chkEs] at h
            pk := fun {k N raw sc X l} c h => by simp [chkK] at h
            po := fun {k N raw sc X l} c h hs => by
              cases l with
              | none => simp [chkEs] at h
              | some x =>
                cases x with
                | Starred y p => simp [isStar] at hs
                | _ => simp [Option.toList, chkEs] at h
            pbA := fun c h => by simp [chkB] at h
            pbO := fun c h => by simp [chkB] at h
            pi := fun c h => by simp [chkI] at h }
  | op o m a b iha ihb =>
    have pe : ∀ {k N raw sc X x}, Ck T call N raw sc k X → chkE T N (.op o m a b) raw sc x = true → PE X x (tyE (kwOf X) (evE call (.op o m a b))) := fun {k N raw sc X x} c h => by
      cases x with
      | BinOp l p r pos =>
        simp only [chkE, Bool.and_eq_true] at h
        rw [opIs_eq h.1.1]
        exact snd_op (iha.pe c h.1.2) (ihb.pe c h.2)
      | _ => simp [chkE] at h
    refine mkE pe (fun {k N raw sc X x} c h => ?_) (fun _ _ _ _ => by simp [chkEs]) (fun _ _ _ _ _ => by simp [chkB]) (fun _ _ _ _ _ => by simp [chkI])
    cases x with
    | BinOp l p r pos =>
      refine snd_truth (fun _ => rfl) (pe c h) fun env M => ?_
      simp only [evT, evE, Option.bind_assoc]
    | _ => simp [chkE] at h
  | cmp o a b iha ihb =>
    refine mkE (fun {k N raw sc X x} c h => ?_) (fun {k N raw sc X x} c h => ?_) (fun _ _ _ _ => by simp [chkEs]) (fun _ _ _ _ _ => by simp [chkB]) (fun _ _ _ _ _ => by simp [chkI])
    · cases x with
      | Compare l ops rs pos =>
        cases ops with
        | nil => simp [chkE] at h
        | cons p ops =>
          cases ops with
          | cons _ _ => cases rs with | nil => simp [chkE] at h | cons _ rs => cases rs <;> simp [chkE] at h
          | nil =>
            cases rs with
            | nil => simp [chkE] at h
            | cons r rs =>
              cases rs with
              | cons _ _ => simp [chkE] at h
              | nil =>
                simp only [chkE, Bool.and_eq_true, Bool.not_eq_true'] at h
                rw [cmIs_eq h.1.1.1]
                exact snd_cmp c.units h.1.1.2 (iha.pe c h.1.2) (ihb.pe c h.2)
      | _ => simp [chkE] at h
    · cases x with
      | Compare l ops rs pos =>
        cases ops with
        | nil => simp [chkE] at h
        | cons p ops =>
          cases ops with
          | cons _ _ => cases rs with | nil => simp [chkE] at h | cons _ rs => cases rs <;> simp [chkE] at h
          | nil =>
            cases rs with
            | nil => simp [chkE] at h
            | cons r rs =>
              cases rs with
              | cons _ _ => simp [chkE] at h
              | nil =>
                simp only [chkE, Bool.and_eq_true, Bool.not_eq_true'] at h
                rw [cmIs_eq h.1.1.1]
                exact snd_cmpT c.units h.1.1.2 (iha.pe c h.1.2) (ihb.pe c h.2)
      | _ => simp [chkE] at h
  | cmp2 o o' a b d iha ihb ihd =>
    have shape : ∀ {N raw sc x}, chkE T N (.cmp2 o o' a b d) raw sc x = true → ∃ l p p' r r' pos, x = .Compare l [p, p'] [r, r'] pos := fun {N raw sc x} h => by
      cases x with
      | Compare l ops rs pos =>
        rcases ops with _ | ⟨p, _ | ⟨p', _ | ⟨_, _⟩⟩⟩ <;> rcases rs with _ | ⟨r, _ | ⟨r', _ | ⟨_, _⟩⟩⟩ <;> first | exact ⟨_, _, _, _, _, _, rfl⟩ | simp [chkE] at h
      | _ => simp [chkE] at h
    refine mkE (fun {k N raw sc X x} c h => ?_) (fun {k N raw sc X x} c h => ?_) (fun _ _ _ _ => by simp [chkEs]) (fun _ _ _ _ _ => by simp [chkB]) (fun _ _ _ _ _ => by simp [chkI])
    · obtain ⟨l, p, p', r, r', pos, rfl⟩ := shape h
      simp only [chkE, Bool.and_eq_true, Bool.not_eq_true'] at h
      obtain ⟨⟨⟨⟨⟨⟨h1, h2⟩, h3⟩, h4⟩, h5⟩, h6⟩, h7⟩ := h
      rw [cmIs_eq h1, cmIs_eq h2]
      exact snd_cmp2 c.units h4 (iha.pe c h5) (ihb.pe c h6) (ihd.pe c h7)
    · obtain ⟨l, p, p', r, r', pos, rfl⟩ := shape h
      simp only [chkE, Bool.and_eq_true, Bool.not_eq_true'] at h
      obtain ⟨⟨⟨⟨⟨⟨h1, h2⟩, h3⟩, h4⟩, h5⟩, h6⟩, h7⟩ := h
      rw [cmIs_eq h1, cmIs_eq h2]
      exact snd_cmp2T c.units h4 (iha.pe c h5) (ihb.pe c h6) (ihd.pe c h7)
  | neg a iha =>
    refine mkE (fun {k N raw sc X x} c h => ?_) (fun c h => pt_no fun _ _ => by simp [evT]) (fun _ _ _ _ => by simp [chkEs]) (fun _ _ _ _ _ => by simp [chkB]) (fun _ _ _ _ _ => by simp [chkI])
    cases x with
    | UnaryOp u l pos =>
      cases u with
      | USub => exact snd_neg (iha.pe c (by simpa [chkE] using h))
      | _ => simp [chkE] at h
    | _ => simp [chkE] at h
  | and a r iha ihr =>
    have shape : ∀ {N raw sc x}, chkE T N (.and a r) raw sc x = true → ∃ y z l pos, x = .BoolOp .And (y :: z :: l) pos := fun {N raw sc x} h => by
      cases x with
      | BoolOp o l pos => cases o <;> rcases l with _ | ⟨p, _ | ⟨p', l⟩⟩ <;> first | exact ⟨_, _, _, _, rfl⟩ | simp [chkE] at h
      | _ => simp [chkE] at h
    exact { pe := fun {k N raw sc X x} c h => by
              obtain ⟨y, z, l, pos, rfl⟩ := shape h
              simp only [chkE, Bool.and_eq_true] at h
              exact snd_and (iha.pe c h.1) ((ihr.pbA c h.2).2 pos).1
            pt := fun {k N raw sc X x} c h => by
              obtain ⟨y, z, l, pos, rfl⟩ := shape h
              simp only [chkE, Bool.and_eq_true] at h
              exact (snd_andT (iha.pt c h.1) ((ihr.pbA c h.2).2 pos).2).pt
            pa := fun {k N raw sc X l} c h => by simp [chkEs] at h
            pk := fun {k N raw sc X l} c h => by simp [chkK] at h
            po := fun {k N raw sc X l} c h hs => by simp [chkEs] at h
            pbA := fun {k N raw sc X l} c h => by
              rcases l with _ | ⟨p, _ | ⟨p', l⟩⟩
              · simp [chkB] at h
              · simp [chkB] at h
              · simp only [chkB, Bool.and_eq_true] at h
                exact ⟨by simp, fun pos => ⟨snd_and (iha.pe c h.1.2) ((ihr.pbA c h.2).2 pos).1, snd_andT (iha.pt c h.1.2) ((ihr.pbA c h.2).2 pos).2⟩⟩
            pbO := fun {k N raw sc X l} c h => by
              rcases l with _ | ⟨p, _ | ⟨p', l⟩⟩ <;> simp [chkB] at h
            pi := fun c h => by simp [chkI] at h }
  | or a r iha ihr =>
    have shape : ∀ {N raw sc x}, chkE T N (.or a r) raw sc x = true → ∃ y z l pos, x = .BoolOp .Or (y :: z :: l) pos := fun {N raw sc x} h => by
      cases x with
      | BoolOp o l pos => cases o <;> rcases l with _ | ⟨p, _ | ⟨p', l⟩⟩ <;> first | exact ⟨_, _, _, _, rfl⟩ | simp [chkE] at h
      | _ => simp [chkE] at h
    exact { pe := fun {k N raw sc X x} c h => by
              obtain ⟨y, z, l, pos, rfl⟩ := shape h
              simp only [chkE, Bool.and_eq_true] at h
              exact snd_or (iha.pe c h.1) ((ihr.pbO c h.2).2 pos).1
            pt := fun {k N raw sc X x} c h => by
              obtain ⟨y, z, l, pos, rfl⟩ := shape h
              simp only [chkE, Bool.and_eq_true] at h
              exact (snd_orT (iha.pt c h.1) ((ihr.pbO c h.2).2 pos).2).pt
            pa := fun {k N raw sc X l} c h => by simp [chkEs] at h
            pk := fun {k N raw sc X l} c h => by simp [chkK] at h
            po := fun {k N raw sc X l} c h hs => by simp [chkEs] at h
            pbO := fun {k N raw sc X l} c h => by
              rcases l with _ | ⟨p, _ | ⟨p', l⟩⟩
              · simp [chkB] at h
              · simp [chkB] at h
              · simp only [chkB, Bool.and_eq_true] at h
                exact ⟨by simp, fun pos => ⟨snd_or (iha.pe c h.1.2) ((ihr.pbO c h.2).2 pos).1, snd_orT (iha.pt c h.1.2) ((ihr.pbO c h.2).2 pos).2⟩⟩
            pbA := fun {k N raw sc X l} c h => by
              rcases l with _ | ⟨p, _ | ⟨p', l⟩⟩ <;> simp [chkB] at h
            pi := fun c h => by simp [chkI] at h }
  | one a iha =>
    exact { pe := fun {k N raw sc X x} c h => by cases x <;> simp [chkE] at h
            pt := fun {k N raw sc X x} c h => by cases x <;> simp [chkE] at h
            pa := fun {k N raw sc X l} c h => by simp [chkEs] at h
            pk := fun {k N raw sc X l} c h => by simp [chkK] at h
            po := fun {k N raw sc X l} c h hs => by simp [chkEs] at h
            pbA := fun {k N raw sc X l} c h => by
              rcases l with _ | ⟨p, _ | ⟨p', l⟩⟩
              · simp [chkB] at h
              · simp only [chkB] at h
                refine ⟨by simp, fun pos => ⟨pe_imp (pe_one (iha.pe c h)) fun σ H Q q => ?_, pw_imp (pw_and1 (iha.pt c h)) fun σ H Q q => ?_⟩⟩
                · simpa only [evE] using q
                · simpa only [evT] using q
              · simp [chkB] at h
            pbO := fun {k N raw sc X l} c h => by
              rcases l with _ | ⟨p, _ | ⟨p', l⟩⟩
              · simp [chkB] at h
              · simp only [chkB] at h
                refine ⟨by simp, fun pos => ⟨pe_imp (pe_one (iha.pe c h)) fun σ H Q q => ?_, pw_imp (pw_or1 (iha.pt c h)) fun σ H Q q => ?_⟩⟩
                · simpa only [evE] using q
                · simpa only [evT] using q
              · simp [chkB] at h
            pi := fun c h => by simp [chkI] at h }
  | not a iha =>
    refine mkE (fun {k N raw sc X x} c h => ?_) (fun {k N raw sc X x} c h => ?_) (fun _ _ _ _ => by simp [chkEs]) (fun _ _ _ _ _ => by simp [chkB]) (fun _ _ _ _ _ => by simp [chkI])
    · cases x with
      | UnaryOp u l pos =>
        cases u with
        | Not => exact snd_not (iha.pe c (by simpa [chkE] using h))
        | _ => simp [chkE] at h
      | _ => simp [chkE] at h
    · cases x with
      | UnaryOp u l pos =>
        cases u with
        | Not => exact snd_notT (iha.pt c (by simpa [chkE] using h))
        | _ => simp [chkE] at h
      | _ => simp [chkE] at h
  | ite d a b ihd iha ihb =>
    refine mkE (fun {k N raw sc X x} c h => ?_) (fun c h => pt_no fun _ _ => by simp [evT]) (fun _ _ _ _ => by simp [chkEs]) (fun _ _ _ _ _ => by simp [chkB]) (fun _ _ _ _ _ => by simp [chkI])
    cases x with
    | IfExp x y z pos =>
      simp only [chkE, Bool.and_eq_true] at h
      exact snd_ite (ihd.pt c h.1.1) (iha.pe c h.1.2) (ihb.pe c h.2)
    | _ => simp [chkE] at h
  | idx a i iha ihi =>
    have pe : ∀ {k N raw sc X x}, Ck T call N raw sc k X → chkE T N (.idx a i) raw sc x = true → PE X x (tyE (kwOf X) (evE call (.idx a i))) := fun {k N raw sc X x} c h => by
      cases x with
      | Subscript l r pos =>
        simp only [chkE, Bool.and_eq_true, Bool.not_eq_true'] at h
        exact snd_idx c.units h.1.1 (iha.pe c h.1.2) (ihi.pe c h.2)
      | _ => simp [chkE] at h
    refine mkE pe (fun {k N raw sc X x} c h => ?_) (fun _ _ _ _ => by simp [chkEs]) (fun _ _ _ _ _ => by simp [chkB]) (fun _ _ _ _ _ => by simp [chkI])
    cases x with
    | Subscript l r pos =>
      refine snd_truth (fun _ => rfl) (pe c h) fun env M => ?_
      simp only [evT, evE, Option.bind_assoc]
      congr; funext p; congr; funext q
      cases semIx q.2 p.1 q.1 <;> rfl
    | _ => simp [chkE] at h
  | sli m a lo hi iha ihl ihh =>
    refine mkE (fun {k N raw sc X x} c h => ?_) (fun c h => pt_no fun _ _ => by simp [evT]) (fun _ _ _ _ => by simp [chkEs]) (fun _ _ _ _ _ => by simp [chkB]) (fun _ _ _ _ _ => by simp [chkI])
    cases x with
    | Subscript l r pos =>
      cases r with
      | Slice p q st p2 =>
        cases st with
        | none =>
          simp only [chkE, Bool.and_eq_true] at h
          exact snd_sli (iha.pe c h.1.1.1.1) (ihl.po c h.1.1.1.2 h.1.2) (ihh.po c h.1.1.2 h.2)
        | some _ => simp [chkE] at h
      | _ => simp [chkE] at h
    | _ => simp [chkE] at h
  | call f es ih =>
    have shape : ∀ {N raw sc x}, chkE T N (.call f es) raw sc x = true → ∃ xn p l pos, x = .Call (.Name xn p) l [] pos := fun {N raw sc x} h => by
      cases x with
      | Call fe l kws pos => cases fe <;> cases kws <;> first | exact ⟨_, _, _, _, rfl⟩ | simp [chkE] at h
      | _ => simp [chkE] at h
    have pe : ∀ {k N raw sc X x}, Ck T call N raw sc k X → chkE T N (.call f es) raw sc x = true → PE X x (tyE (kwOf X) (evE call (.call f es))) := fun {k N raw sc X x} c h => by
      obtain ⟨xn, p, l, pos, rfl⟩ := shape h
      simp only [chkE, Bool.and_eq_true, decide_eq_true_eq] at h
      obtain ⟨⟨⟨⟨h1, h2⟩, h3⟩, h4⟩, h5⟩ := h
      exact snd_call c h1 h2 h3 (by cases l <;> simp at h4 ⊢) (ih.pa c h5)
    refine mkE pe (fun {k N raw sc X x} c h => ?_) (fun _ _ _ _ => by simp [chkEs]) (fun _ _ _ _ _ => by simp [chkB]) (fun _ _ _ _ _ => by simp [chkI])
    obtain ⟨xn, p, l, pos, rfl⟩ := shape h
    refine snd_truth (fun _ => rfl) (pe c h) fun env M => ?_
    simp only [evT, evE, Option.bind_assoc]
  | callk f perm es ks ih ihk =>
    have shape : ∀ {N raw sc x}, chkE T N (.callk f perm es ks) raw sc x = true → ∃ xn p l kw kws pos, x = .Call (.Name xn p) l (kw :: kws) pos := fun {N raw sc x} h => by
      cases x with
      | Call fe l kws pos => cases fe <;> cases kws <;> first | exact ⟨_, _, _, _, _, _, rfl⟩ | simp [chkE] at h
      | _ => simp [chkE] at h
    have pe : ∀ {k N raw sc X x}, Ck T call N raw sc k X → chkE T N (.callk f perm es ks) raw sc x = true → PE X x (tyE (kwOf X) (evE call (.callk f perm es ks))) := fun {k N raw sc X x} c h => by
      obtain ⟨xn, p, l, kw, kws, pos, rfl⟩ := shape h
      simp only [chkE, Bool.and_eq_true, decide_eq_true_eq] at h
      obtain ⟨⟨⟨⟨⟨h1, h2⟩, h3⟩, h4⟩, h5⟩, h6⟩ := h
      exact snd_callk c h1 h2 h3 h4 (chkK_all h6) (ih.pa c h5) (ihk.pk c h6) (fun e => by subst e; exact chkEs_nil h5) (fun env M r e => chkEs_len h3 h5 e) (fun env M r e => by rw [chkK_names h6]; exact chkK_len h6 e)
    refine mkE pe (fun {k N raw sc X x} c h => ?_) (fun _ _ _ _ => by simp [chkEs]) (fun _ _ _ _ _ => by simp [chkB]) (fun _ _ _ _ _ => by simp [chkI])
    obtain ⟨xn, p, l, kw, kws, pos, rfl⟩ := shape h
    refine snd_truth (fun _ => rfl) (pe c h) fun env M => ?_
    simp only [evT, evE, Option.bind_assoc]
  | blt b m es ih =>
    have shape : ∀ {N raw sc x}, chkE T N (.blt b m es) raw sc x = true → ∃ xn p l pos, x = .Call (.Name xn p) l [] pos := fun {N raw sc x} h => by
      cases x with
      | Call fe l kws pos => cases fe <;> cases kws <;> first | exact ⟨_, _, _, _, rfl⟩ | simp [chkE] at h
      | _ => simp [chkE] at h
    have pe : ∀ {k N raw sc X x}, Ck T call N raw sc k X → chkE T N (.blt b m es) raw sc x = true → PE X x (tyE (kwOf X) (evE call (.blt b m es))) := fun {k N raw sc X x} c h => by
      obtain ⟨xn, p, l, pos, rfl⟩ := shape h
      simp only [chkE, Bool.and_eq_true, decide_eq_true_eq] at h
      obtain ⟨⟨⟨⟨⟨⟨h1, h2⟩, h3⟩, hq⟩, h4⟩, h5⟩, h6⟩ := h
      refine snd_blt c hq h1 h2 ?_ h4 (by cases l <;> simp at h5 ⊢) (ih.pa c h6)
      split at h3
      · rename_i hb; rw [if_pos hb]; exact of_decide_eq_true h3
      · rename_i hb; rw [if_neg hb]; exact List.contains_iff_mem.mp h3
    refine mkE pe (fun {k N raw sc X x} c h => ?_) (fun _ _ _ _ => by simp [chkEs]) (fun _ _ _ _ _ => by simp [chkB]) (fun _ _ _ _ _ => by simp [chkI])
    obtain ⟨xn, p, l, pos, rfl⟩ := shape h
    refine snd_truth (fun _ => rfl) (pe c h) fun env M => ?_
    simp only [evT, evE, Option.bind_assoc]
  | sset m a iha =>
    refine mkE (fun {k N raw sc X x} c h => ?_) (fun c h => pt_no fun _ _ => by simp [evT]) (fun _ _ _ _ => by simp [chkEs]) (fun _ _ _ _ _ => by simp [chkB]) (fun _ _ _ _ _ => by simp [chkI])
    obtain ⟨xn, p, yn, py, z, p2, pos, rfl⟩ : ∃ xn p yn py z p2 pos, x = .Call (.Name xn p) [.Call (.Name yn py) [z] [] p2] [] pos := by
      cases x with
      | Call fe l kws pos =>
        cases fe <;> cases kws <;> rcases l with _ | ⟨y, _ | ⟨_, _⟩⟩ <;> try (simp [chkE] at h)
        cases y with
        | Call fe2 l2 kws2 pos2 => cases fe2 <;> cases kws2 <;> rcases l2 with _ | ⟨y, _ | ⟨_, _⟩⟩ <;> first | exact ⟨_, _, _, _, _, _, _, rfl⟩ | simp [chkE] at h
        | _ => simp [chkE] at h
      | _ => simp [chkE] at h
    simp only [chkE, Bool.and_eq_true, Bool.not_eq_true', decide_eq_true_eq, List.contains_iff_mem] at h
    obtain ⟨⟨⟨⟨⟨⟨⟨h1, h2⟩, h3⟩, h4⟩, h5⟩, h6⟩, h7⟩, h8⟩ := h
    exact snd_sset c h1 h2 h3 h4 h5 h6 h7 (iha.pe c h8)
  | isi a ts iha =>
    have shape : ∀ {N raw sc x}, chkE T N (.isi a ts) raw sc x = true → ∃ xn p y z pos, x = .Call (.Name xn p) [y, z] [] pos := fun {N raw sc x} h => by
      cases x with
      | Call fe l kws pos => cases fe <;> cases kws <;> rcases l with _ | ⟨p, _ | ⟨p', _ | ⟨_, _⟩⟩⟩ <;> first | exact ⟨_, _, _, _, _, rfl⟩ | simp [chkE] at h
      | _ => simp [chkE] at h
    have pe : ∀ {k N raw sc X x}, Ck T call N raw sc k X → chkE T N (.isi a ts) raw sc x = true → PE X x (tyE (kwOf X) (evE call (.isi a ts))) := fun {k N raw sc X x} c h => by
      obtain ⟨xn, p, y, z, pos, rfl⟩ := shape h
      simp only [chkE, Bool.and_eq_true, Bool.not_eq_true', decide_eq_true_eq, List.contains_iff_mem] at h
      obtain ⟨⟨⟨⟨⟨h1, h2⟩, h3⟩, h4⟩, h5⟩, h6⟩ := h
      cases z with
      | Tuple l kk pz =>
        simp only [Bool.and_eq_true, decide_eq_true_eq] at h6
        exact snd_isiT c h1 h2 h3 h5 (iha.pe c h4) h6.1 h6.2.2
      | Name zn pz =>
        rcases ts with _ | ⟨t, _ | ⟨_, _⟩⟩
        · simp at h6
        · simp only [tyEs, Bool.and_eq_true, decide_eq_true_eq, List.contains_iff_mem] at h6
          exact snd_isi1 c h1 h2 h3 h5 (iha.pe c h4) h6.1.1.1 h6.1.1.2 h6.1.2
        · simp at h6
      | _ => rcases ts with _ | ⟨t, _ | ⟨_, _⟩⟩ <;> simp [tyEs] at h6
    refine mkE pe (fun {k N raw sc X x} c h => ?_) (fun _ _ _ _ => by simp [chkEs]) (fun _ _ _ _ _ => by simp [chkB]) (fun _ _ _ _ _ => by simp [chkI])
    obtain ⟨xn, p, y, z, pos, rfl⟩ := shape h
    refine snd_truth (fun _ => rfl) (pe c h) fun env M => ?_
    simp only [evT, evE, Option.bind_assoc]
    congr; funext p
    cases semIsi p.2 p.1 ts <;> rfl
  | mth bm m a es iha ihes =>
    refine mkE (fun {k N raw sc X x} c h => ?_) (fun c h => pt_no fun _ _ => by simp [evT]) (fun _ _ _ _ => by simp [chkEs]) (fun _ _ _ _ _ => by simp [chkB]) (fun _ _ _ _ _ => by simp [chkI])
    cases x with
    | Call fe l kws pos =>
      cases fe with
      | Attribute o n ap =>
        cases kws with
        | nil =>
          simp only [chkE, Bool.and_eq_true, Bool.not_eq_true', decide_eq_true_eq] at h
          obtain ⟨⟨⟨⟨⟨⟨⟨h1, h2⟩, h3⟩, h4⟩, h5⟩, h6⟩, h7⟩, h8⟩ := h
          by_cases hb : bm = .get2
          · subst hb
            exact snd_mthGet c h1 h2 h3 h4 (by cases l <;> simp at h5 ⊢) h6 (iha.pe c h7) (ihes.pa c h8)
          · exact snd_mth c h1 hb h2 h3 h4 (by cases l <;> simp at h5 ⊢) h6 (iha.pe c h7) (ihes.pa c h8)
        | cons _ _ => simp [chkE] at h
      | _ => simp [chkE] at h
    | _ => simp [chkE] at h
  | comp m t own it cd el ihi ihc ihe =>
    refine mkE (fun {k N raw sc X x} c h => ?_) (fun c h => pt_no fun _ _ => by simp [evT]) (fun _ _ _ _ => by simp [chkEs]) (fun _ _ _ _ _ => by simp [chkB]) (fun _ _ _ _ _ => by simp [chkI])
    cases x with
    | ListComp elt gs scope pos =>
      rcases gs with _ | ⟨⟨tg, iter, ifs, as⟩, _ | ⟨_, _⟩⟩
      · simp [chkE] at h
      · by_cases has : as = 0
        · subst has
          have h : (blkC N sc scope (own.map fun i => (N.getD i "", i)) && own.all (fun i => decide (i < N.length)) && tgIn t own && chkT N scope t tg && chkI T N it raw sc (isTup tg) iter && chkCs (fun x => chkE T N cd scope (relS scope sc) x) (isYes cd) ifs && chkE T N el scope (relS scope sc) elt) = true := h
          simp only [Bool.and_eq_true] at h
          obtain ⟨⟨⟨⟨⟨⟨h1, h2⟩, h3⟩, h4⟩, h5⟩, h6⟩, h7⟩ := h
          obtain ⟨i1, i2⟩ := ihi.pi c h5
          refine snd_comp c h1 h3 h4 i1 (i2 tg fun ht => ?_) (fun Y cy => ?_) fun Y cy => ihe.pe cy h7
          · cases tg <;> simp [isTup] at ht
            exact ⟨_, _, _, rfl⟩
          · rcases ifs with _ | ⟨x, _ | ⟨_, _⟩⟩
            · simp only [chkCs] at h6
              cases cd <;> simp [isYes] at h6
              refine pts_imp pts_nil fun σ H Q ⟨env, W, M, b, M', re, wr, e, q⟩ => ?_
              simp only [evT] at e
              cases e
              exact q.now wr
            · exact pts_one (ihc.pt cy h6)
            · simp [chkCs] at h6
        · cases as with
          | ofNat n =>
            cases n with
            | zero => exact absurd rfl has
            | succ _ => exact absurd (show false = true from h) Bool.false_ne_true
          | negSucc _ => exact absurd (show false = true from h) Bool.false_ne_true
      · simp [chkE] at h
    | _ => simp [chkE] at h
  | comp2 m t own it t1 own1 it1 el ih1 ih2 ih3 =>
    refine mkE (fun {k N raw sc X x} c h => ?_) (fun c h => pt_no fun _ _ => by simp [evT]) (fun _ _ _ _ => by simp [chkEs]) (fun _ _ _ _ _ => by simp [chkB]) (fun _ _ _ _ _ => by simp [chkI])
    cases x with
    | ListComp elt gs scope pos =>
      simp only [chkE] at h
      split at h
      · rename_i tg iter tg1 iter1 hgs
        obtain rfl := gs2_eq hgs
        simp only [Bool.and_eq_true, Bool.not_eq_true'] at h
        obtain ⟨⟨⟨⟨⟨⟨⟨⟨⟨⟨h1, h2⟩, h3⟩, h4⟩, h5⟩, h6⟩, h7⟩, hs⟩, h8⟩, h9⟩, h10⟩ := h
        obtain ⟨i1, i2⟩ := ih1.pi c h8
        refine snd_comp2 c h1 (fun i hi => ?_) h4 h5 h6 h7 i1 hs (i2 tg fun ht => ?_) (fun Y cy => ((ih2.pi cy h9).2 tg1 fun ht => ?_)) fun Y cy => ih3.pe cy h10
        · rw [List.all_eq_true] at h3
          simpa using h3 i hi
        · cases tg <;> simp [isTup] at ht
          exact ⟨_, _, _, rfl⟩
        · cases tg1 <;> simp [isTup] at ht
          exact ⟨_, _, _, rfl⟩
      · cases h
    | _ => simp [chkE] at h
  | yes => exact mkE (fun {k N raw sc X x} c h => by cases x <;> simp [chkE] at h) (fun {k N raw sc X x} c h => by cases x <;> simp [chkE] at h) (fun _ _ _ _ => by simp [chkEs]) (fun _ _ _ _ _ => by simp [chkB]) (fun _ _ _ _ _ => by simp [chkI])
  | iseq a iha =>
    refine mkI (fun _ _ _ x => by cases x <;> simp [chkE]) (fun _ _ _ _ => by simp [chkEs]) (fun _ _ _ _ _ => by simp [chkB]) (fun {k N raw sc X x tup} c h => ?_)
    simp only [chkI, Bool.and_eq_true, Bool.not_eq_true'] at h
    exact ⟨h.1, fun tg _ => snd_iseq h.1 (iha.pe c h.2)⟩
  | irange1 a iha =>
    refine mkI (fun _ _ _ x => by cases x <;> simp [chkE]) (fun _ _ _ _ => by simp [chkEs]) (fun _ _ _ _ _ => by simp [chkB]) (fun {k N raw sc X x tup} c h => ?_)
    cases x with
    | Call fe l kws pos =>
      cases fe <;> cases kws <;> rcases l with _ | ⟨p, _ | ⟨p', l⟩⟩ <;> simp only [chkI, Bool.false_eq_true, Bool.and_eq_true, Bool.not_eq_true', decide_eq_true_eq, List.contains_iff_mem] at h
      exact ⟨rfl, fun tg _ => snd_range1 c h.1.1.1.1 h.1.1.1.2 h.1.1.2 h.1.2 (iha.pe c h.2)⟩
    | _ => simp [chkI] at h
  | irange2 a b iha ihb =>
    refine mkI (fun _ _ _ x => by cases x <;> simp [chkE]) (fun _ _ _ _ => by simp [chkEs]) (fun _ _ _ _ _ => by simp [chkB]) (fun {k N raw sc X x tup} c h => ?_)
    cases x with
    | Call fe l kws pos =>
      cases fe <;> cases kws <;> rcases l with _ | ⟨p, _ | ⟨p', _ | ⟨_, _⟩⟩⟩ <;> simp only [chkI, Bool.false_eq_true, Bool.and_eq_true, Bool.not_eq_true', decide_eq_true_eq, List.contains_iff_mem] at h
      obtain ⟨⟨⟨⟨⟨⟨h1, h2⟩, h3⟩, h4⟩, h5⟩, h6⟩, h7⟩ := h
      exact ⟨rfl, fun tg _ => snd_range2 c h1 h2 h3 h4 h5 (iha.pe c h6) (ihb.pe c h7)⟩
    | _ => simp [chkI] at h
  | irange3 a b d iha ihb ihd =>
    refine mkI (fun _ _ _ x => by cases x <;> simp [chkE]) (fun _ _ _ _ => by simp [chkEs]) (fun _ _ _ _ _ => by simp [chkB]) (fun {k N raw sc X x tup} c h => ?_)
    cases x with
    | Call fe l kws pos =>
      cases fe <;> cases kws <;> rcases l with _ | ⟨p, _ | ⟨p', _ | ⟨p'', _ | ⟨_, _⟩⟩⟩⟩ <;> simp only [chkI, Bool.false_eq_true, Bool.and_eq_true, Bool.not_eq_true', decide_eq_true_eq, List.contains_iff_mem] at h
      obtain ⟨⟨⟨⟨⟨⟨⟨⟨h1, h2⟩, h3⟩, h4⟩, h5⟩, h6⟩, h7⟩, h8⟩, h9⟩ := h
      exact ⟨rfl, fun tg _ => snd_range3 c h1 h2 h3 h4 h5 h6 (iha.pe c h7) (ihb.pe c h8) (ihd.pe c h9)⟩
    | _ => simp [chkI] at h
  | ienum a iha =>
    refine mkI (fun _ _ _ x => by cases x <;> simp [chkE]) (fun _ _ _ _ => by simp [chkEs]) (fun _ _ _ _ _ => by simp [chkB]) (fun {k N raw sc X x tup} c h => ?_)
    cases tup with
    | false => cases x <;> simp [chkI] at h
    | true =>
      cases x with
      | Call fe l kws pos =>
        cases fe <;> cases kws <;> rcases l with _ | ⟨p, _ | ⟨p', l⟩⟩ <;> simp only [chkI, Bool.false_eq_true, Bool.and_eq_true, Bool.not_eq_true', decide_eq_true_eq, List.contains_iff_mem] at h
        refine ⟨rfl, fun tg ht => ?_⟩
        obtain ⟨elts, kk, tp, rfl⟩ := ht rfl
        exact snd_enum c h.1.1.1.1 h.1.1.1.2 h.1.1.2 h.1.2 (iha.pe c h.2)
      | _ => simp [chkI] at h
  | izip a b iha ihb =>
    refine mkI (fun _ _ _ x => by cases x <;> simp [chkE]) (fun _ _ _ _ => by simp [chkEs]) (fun _ _ _ _ _ => by simp [chkB]) (fun {k N raw sc X x tup} c h => ?_)
    cases tup with
    | false => cases x <;> simp [chkI] at h
    | true =>
      cases x with
      | Call fe l kws pos =>
        cases fe <;> cases kws <;> rcases l with _ | ⟨p, _ | ⟨p', _ | ⟨_, _⟩⟩⟩ <;> simp only [chkI, Bool.false_eq_true, Bool.and_eq_true, Bool.not_eq_true', decide_eq_true_eq, List.contains_iff_mem] at h
        obtain ⟨⟨⟨⟨⟨⟨h1, h2⟩, h3⟩, h4⟩, h5⟩, h6⟩, h7⟩ := h
        refine ⟨rfl, fun tg ht => ?_⟩
        obtain ⟨elts, kk, tp, rfl⟩ := ht rfl
        exact snd_zip c h1 h2 h3 h4 h5 (iha.pe c h6) (ihb.pe c h7)
      | _ => simp [chkI] at h
end DL

set_option maxRecDepth 100000
namespace DL
open PySem PySem.Spec PyProof.Rows L2

/-! ### what stands at the left of a tuple's stores -/
def nameLoc (kd : Str → Option NameKind) (line : Nat) : Expr → Option Str
  | .Name id pos => if kd id == some .local && pos.line == line then some id else none
  | _ => none
def swPure (ts vs : List Expr) (kd : Str → Option NameKind) : Option (Option (List Str)) :=
  if !(ts.length == 2 || ts.length == 3) || vs.length != ts.length then some none
  else if vs.any isStar then some none
  else
    if (ts.filterMap (nameLoc kd ((ts.head?.map (·.pos.line)).getD 0))).length != ts.length || (ts.filterMap (nameLoc kd ((ts.head?.map (·.pos.line)).getD 0))).eraseDups.length != (ts.filterMap (nameLoc kd ((ts.head?.map (·.pos.line)).getD 0))).length then some none
    else if vs.all (foldedForSure 8) then some none
    else if vs.all (constantsAlone 8) then none
    else some (some (ts.filterMap (nameLoc kd ((ts.head?.map (·.pos.line)).getD 0))))
theorem sw_pure {ts vs : List Expr} {k1 k2 : Nat} {p1 p2 : Pos} {env : Env} {r : Option (List Str)} (hk : env.scope.kind = .function) (h : swPure ts vs env.kindOf = some r) : swappedStores [.Tuple ts k1 p1] (.Tuple vs k2 p2) env = pure r := by
  have hb : env.blockKind = .function := by unfold Env.blockKind; rw [hk]; rfl
  have hs : ∀ f : Expr → Bool, (∀ x, f x = isStar x) → vs.any f = vs.any isStar := fun f h => by
    congr; funext x; exact h x
  have hn : ∀ f : Expr → Option Str, (∀ x, f x = nameLoc env.kindOf ((ts.head?.map (·.pos.line)).getD 0) x) → ts.filterMap f = ts.filterMap (nameLoc env.kindOf ((ts.head?.map (·.pos.line)).getD 0)) := fun f h => by
    congr; funext x; exact h x
  unfold swappedStores
  simp only [hb]
  unfold swPure at h
  split at h
  · rename_i h1
    cases h
    have : (!(ts.length == 2 || ts.length == 3) || vs.length != ts.length || ScopeKind.function != ScopeKind.function) = true := by rw [h1]; rfl
    simp only [this, if_true]
  · rename_i h1
    have : (!(ts.length == 2 || ts.length == 3) || vs.length != ts.length || ScopeKind.function != ScopeKind.function) = false := by
      have : (ScopeKind.function != ScopeKind.function) = false := by decide
      rw [this]
      simpa using h1
    simp only [this, Bool.false_eq_true, if_false]
    rw [hs]
    rotate_left
    · intro x; cases x <;> rfl
    rw [hn]
    rotate_left
    · intro x; cases x <;> rfl
    split at h
    · rename_i h2
      cases h
      rw [h2]; rfl
    · rename_i h2
      simp only [h2, if_false]
      split at h
      · rename_i h3
        cases h
        simp only [h3, if_true]
        rfl
      · rename_i h3
        simp only [h3, if_false]
        split at h
        · rename_i h4
          cases h
          simp only [h4, if_true]
          rfl
        · rename_i h4
          simp only [h4, if_false]
          split at h
          · cases h
          · rename_i h5
            cases h
            simp only [h5, if_false]
            rfl
theorem sw_none {tg v : Expr} {env : Env} (h : isTup v = false) : swappedStores [tg] v env = pure none := by
  unfold swappedStores
  cases tg <;> cases v <;> first | rfl | (simp [isTup] at h)
theorem sws_plain {v : Expr} {t : Option Expr} {l : Nat} {env : Env} (h : isComp v = false) : swapsWith v t l env = pure false := by
  unfold swapsWith
  cases v <;> first | rfl | (simp [isComp] at h)
theorem sws_sub {v x y : Expr} {p : Pos} {l : Nat} {env : Env} : swapsWith v (some (.Subscript x y p)) l env = pure false := by
  unfold swapsWith
  cases v <;> rfl
theorem sws_cell {v : Expr} {x : Str} {p : Pos} {l : Nat} {env : Env} (h : env.scope.names.lookup x = some .cell) : swapsWith v (some (.Name x p)) l env = pure false := by
  have ky : (env.kindOf x == some .local) = false := by
    show (env.scope.names.lookup x == some .local) = false
    rw [h]; rfl
  unfold swapsWith
  cases v <;> first | rfl | (simp only [ky, Bool.and_false, Bool.false_and] <;> rfl)

def isCell (sc : Scope) (x : Str) : Bool := match sc.names.lookup x with | some .cell => true | _ => false
def isLoc (sc : Scope) (x : Str) : Bool := match sc.names.lookup x with | some .local => true | _ => false
def swNone (sc : Scope) (tg v : Expr) : Bool := match tg, v with
  | .Tuple ts _ _, .Tuple vs _ _ => (match swPure ts vs (fun x => sc.names.lookup x) with | some none => true | _ => false)
  | _, v => !isTup v
def chkPar (N : List Str) (sc : Scope) : List Nat → List Expr → Bool
  | [], [] => true
  | i :: is, .Name x _ :: es => decide (N[i]? = some x) && isLoc sc x && chkPar N sc is es
  | _, _ => false
section
variable (T : Tab) (N : List Str)
mutual
def chkS : S → Scope → Stmt → Bool
  | .set (.nm i) e, sc, .Assign [.Name x _] v _ => decide (N[i]? = some x) && locl sc x && chkE T N e sc sc v && (!isComp v || isCell sc x)
  | .set t e, sc, .Assign [tg] v _ => isTup tg && chkT N sc t tg && chkE T N e sc sc v && !isComp v && swNone sc tg v
  | .setc i e, sc, .Assign [.Name x p] (.ListComp elt gs scope p2) _ => decide (N[i]? = some x) && isLoc sc x && (p.line == p2.line) && !(scope.names.any fun (n, k) => n == x && (k == .local || k == .cell)) && chkE T N e sc sc (.ListComp elt gs scope p2)
  | .par is es, sc, .Assign [.Tuple ts _ _] (.Tuple vs _ _) _ => chkPar N sc is ts && decide (is.Nodup) && chkEs T N es sc sc vs && (vs.all fun e => !isStar e) && (match swPure ts vs (fun x => sc.names.lookup x) with | some (some _) => true | _ => false)
  | .put o i e, sc, .Assign [.Subscript x y _] v _ => !isSlice y && chkE T N o sc sc x && chkE T N i sc sc y && chkE T N e sc sc v
  | .expr e, sc, .Expr x _ => !isComp x && chkE T N e sc sc x
  | .ret e, sc, .Return (some x) _ => chkE T N e sc sc x
  | .retN, sc, .Return none _ => true
  | .ite c a b, sc, .If x l r _ => chkE T N c sc sc x && chkSs a sc l && chkSs b sc r
  | .for_ t it b, sc, .For tg iter l [] _ => chkT N sc t tg && chkI T N it sc sc (isTup tg) iter && chkSs b sc l
  | .while_ c b, sc, .While x l [] _ => chkE T N c sc sc x && chkSs b sc l
  | .brk, sc, .Break _ => true
  | .cont, sc, .Continue _ => true
  | .pass, sc, .Pass _ => true
  | .never, _, _ => true
  | _, _, _ => false
def chkSs : S → Scope → List Stmt → Bool
  | .nil, _, [] => true
  | .seq s r, sc, st :: l => chkS s sc st && chkSs r sc l
  | .never, _, _ => true
  | _, _, _ => false
end
end

def PostS (K : Kw) (W : Wd) (H : Hp) (fl : Fl) (env' : En) (M' : Mm) (D : Ends) : Prop := match fl with
  | .nx => ∀ W' H' σ', Ext W H W' H' → WR K W' M' H' → RE K W' H' env' σ' → D.nx σ' H'
  | .rt d => ∀ W' H' v, Ext W H W' H' → WR K W' M' H' → DR K W' H' d v → D.rt v H'
  | .bk => ∀ W' H' σ', Ext W H W' H' → WR K W' M' H' → RE K W' H' env' σ' → D.bk σ' H'
  | .ct => ∀ W' H' σ', Ext W H W' H' → WR K W' M' H' → RE K W' H' env' σ' → D.ct σ' H'
def tySt (K : Kw) (ex : En → Mm → Option (Fl × En × Mm)) : TS := fun D σ H => ∃ env W M fl env' M', RE K W H env σ ∧ WR K W M H ∧ ex env M = some (fl, env', M') ∧ PostS K W H fl env' M' D
theorem ps_imp {X : Cx} {st : Stmt} {t t' : TS} (h : PS X st t) (hi : ∀ D σ H, t' D σ H → t D σ H) : PS X st t' := ⟨fun pins s σ H D I q => h.run pins s σ H D I (hi D σ H q)⟩
theorem pss_imp {X : Cx} {st : List Stmt} {t t' : TS} (h : PSs X st t) (hi : ∀ D σ H, t' D σ H → t D σ H) : PSs X st t' := ⟨fun pins s σ H D I q => h.run pins s σ H D I (hi D σ H q)⟩
section
variable {K : Kw} {W W1 : Wd} {H H1 : Hp} {M M' : Mm} {fl : Fl} {env env' : En} {D : Ends} {σ : L2.St}
theorem PostS.ext (x : Ext W H W1 H1) (h : PostS K W H fl env' M' D) : PostS K W1 H1 fl env' M' D := by
  cases fl with
  | nx => exact fun W' H' σ' e => h W' H' σ' (x.trans e)
  | rt d => exact fun W' H' v e => h W' H' v (x.trans e)
  | bk => exact fun W' H' σ' e => h W' H' σ' (x.trans e)
  | ct => exact fun W' H' σ' e => h W' H' σ' (x.trans e)
theorem for_turns {t : Tg} {body : En → Mm → Option (Fl × En × Mm)} {I : ItD} {J : It} (hg : good t = true) (w1 : WR K W M H) (re : RE K W H env σ) (ok : ItOk K J I W H) (e : forGo body t I.src I.items env M = some (fl, env', M')) (q : PostS K W H fl env' M' D) :
    ∃ Wi : Nat → Nat → L2.St → Hp → Prop, (∃ m, Wi 0 m σ H) ∧ ∀ i m σ H, Wi i m σ H → (J.stop i H ∧ D.nx σ H) ∨ (J.go i H ∧ ∃ N : L2.St → Hp → Prop, (∀ σ' H', N σ' H' → ∃ m', m' < m ∧ Wi (i + 1) m' σ' H') ∧
      ∀ x H', J.yld i H x H' → gOf K.k t x σ H' fun σ2 H2 => tySt K body { D with nx := N, ct := N, bk := D.nx } σ2 H2) := by
  let St := fun (i : Nat) (σ : L2.St) (Hc : Hp) => ∃ Wc Mc ec, WR K Wc Mc Hc ∧ Ext W H Wc Hc ∧ RE K Wc Hc ec σ ∧ forGo body t I.src (I.items.drop i) ec Mc = some (fl, env', M')
  refine ⟨fun i m σ Hc => m = I.items.length - i ∧ i ≤ I.items.length ∧ St i σ Hc, ⟨_, rfl, Nat.zero_le _, W, M, env, w1, w1.refl, re, e⟩, ?_⟩
  rintro i m σ Hc ⟨rfl, hi, Wc, Mc, ec, w, x, rc, e⟩
  by_cases hlt : i < I.items.length
  · right
    rw [List.drop_eq_getElem_cons hlt] at e
    simp only [forGo] at e
    split at e
    · rename_i hc
      simp only [Option.bind_eq_some_iff] at e
      obtain ⟨env1, e1, ⟨flb, env2, M2⟩, e2, e⟩ := e
      obtain ⟨k1, k2⟩ := ok Wc Hc Mc x.weak w hc
      obtain ⟨g1, g2⟩ := k1 i _ (List.getElem?_eq_getElem hlt)
      refine ⟨g1, St (i + 1), fun σ' H' nx => ⟨_, by omega, rfl, hlt, nx⟩, fun y H' hy => ?_⟩
      obtain ⟨x2, w2, r2⟩ := g2 y H' hy
      refine (asg_all t hg).1 _ ec env1 y σ _ e1 (rc.mono w x2) r2 fun σ2 re3 _ => ⟨env1, Wc, Mc, flb, env2, M2, re3, w2, e2, ?_⟩
      cases flb with
      | nx => exact fun W3 H3 σ3 x3 w3 r3 => ⟨W3, M2, env2, w3, (x.trans x2).trans x3, r3, e⟩
      | ct => exact fun W3 H3 σ3 x3 w3 r3 => ⟨W3, M2, env2, w3, (x.trans x2).trans x3, r3, e⟩
      | bk => cases e; exact fun W3 H3 σ3 x3 w3 r3 => q W3 H3 σ3 ((x.trans x2).trans x3) w3 r3
      | rt v => cases e; exact fun W3 H3 v x3 w3 r3 => q W3 H3 v ((x.trans x2).trans x3) w3 r3
    · cases e
  · left
    have hi' : I.items.length ≤ i := by omega
    rw [List.drop_eq_nil_of_le hi'] at e
    simp only [forGo] at e
    split at e
    · rename_i hc
      cases e
      obtain ⟨k1, k2⟩ := ok Wc Hc _ x.weak w hc
      exact ⟨k2 i hi', q Wc Hc σ x w rc⟩
    · cases e
theorem while_turns {c : En → Mm → Option (Bool × Mm)} {body : En → Mm → Option (Fl × En × Mm)} {n : Nat} (w1 : WR K W M H) (re : RE K W H env σ) (e : whileGo c body n env M = some (fl, env', M')) (q : PostS K W H fl env' M' D) : tWhile (tyT K c) (tySt K body) D σ H := by
  let St := fun (m : Nat) (σ : L2.St) (Hc : Hp) => ∃ Wc Mc ec, WR K Wc Mc Hc ∧ Ext W H Wc Hc ∧ RE K Wc Hc ec σ ∧ whileGo c body m ec Mc = some (fl, env', M')
  refine ⟨St, ⟨n, W, M, env, w1, w1.refl, re, e⟩, ?_⟩
  rintro m σ Hc ⟨Wc, Mc, ec, w, x, rc, e⟩
  cases m with
  | zero => simp [whileGo] at e
  | succ m =>
    simp only [whileGo, Option.bind_eq_some_iff] at e
    obtain ⟨⟨b, Mb⟩, e1, e⟩ := e
    refine ⟨ec, Wc, Mc, b, Mb, rc, w, e1, fun W2 H2 x2 w2 => ?_⟩
    cases b with
    | false =>
      simp only [Bool.false_eq_true, if_false] at e ⊢
      cases e
      exact q W2 H2 σ (x.trans x2) w2 (rc.mono w x2)
    | true =>
      simp only [if_true, Option.bind_eq_some_iff] at e ⊢
      obtain ⟨⟨flb, env2, M2⟩, e2, e⟩ := e
      refine ⟨St m, fun σ' H' nx => ⟨m, Nat.lt_succ_self _, nx⟩, ec, W2, Mb, flb, env2, M2, rc.mono w x2, w2, e2, ?_⟩
      cases flb with
      | nx => exact fun W3 H3 σ3 x3 w3 r3 => ⟨W3, M2, env2, w3, (x.trans x2).trans x3, r3, e⟩
      | ct => exact fun W3 H3 σ3 x3 w3 r3 => ⟨W3, M2, env2, w3, (x.trans x2).trans x3, r3, e⟩
      | bk => cases e; exact fun W3 H3 σ3 x3 w3 r3 => q W3 H3 σ3 ((x.trans x2).trans x3) w3 r3
      | rt v => cases e; exact fun W3 H3 v x3 w3 r3 => q W3 H3 v ((x.trans x2).trans x3) w3 r3
end

/-- at a def's own level -/
structure Cs (T : Tab) (call : CallF) (N : List Str) (sc : Scope) (k : Nat) (X : Cx) : Prop where
  c : Ck T call N sc sc k X
  kind : sc.kind = .function
theorem locl_of {sc : Scope} {x : Str} (h : locl sc x = true) : sc.names.lookup x = some .local ∨ sc.names.lookup x = some .cell := by
  unfold locl at h
  split at h
  · exact .inl (by assumption)
  · exact .inr (by assumption)
  · cases h
theorem isLoc_of {sc : Scope} {x : Str} (h : isLoc sc x = true) : sc.names.lookup x = some .local := by
  unfold isLoc at h
  split at h
  · assumption
  · cases h
theorem isCell_of {sc : Scope} {x : Str} (h : isCell sc x = true) : sc.names.lookup x = some .cell := by
  unfold isCell at h
  split at h
  · assumption
  · cases h
section
variable {T : Tab} {call : CallF} {N : List Str} {sc : Scope} {k : Nat} {X : Cx}
theorem Cs.fnl (c : Cs T call N sc k X) {x : Str} (h : sc.names.lookup x = some .local ∨ sc.names.lookup x = some .cell) : X.fn x = true ∨ X.env.scope.names.lookup x = some .local := by
  rcases h with h | h
  · right; rw [c.c.hsc]; exact h
  · exact .inl (c.c.fn x h)
theorem snd_set {i : Nat} {x : Str} {p pos : Pos} {v : Expr} {e : E} (c : Cs T call N sc k X) (h1 : N[i]? = some x) (h2 : locl sc x = true) (h3 : chkE T N e sc sc v = true) (h4 : isComp v = false ∨ isCell sc x = true) :
    PS X (.Assign [.Name x p] v pos) (tySt (kwOf X) (exS call (.set (.nm i) e))) := by
  have hl := locl_of h2
  have hL : Loc X.env.scope x := by rw [c.c.hsc]; exact hl
  refine ps_imp (ps_set (i := i) (by rw [c.c.hN]; exact c.c.nd) (by rw [c.c.hN]; exact h1) hL ((sndE T call e).pe c.c h3) ?_ (c.fnl hl)) fun D σ H ⟨env, W, M, fl, env', M', re, wr, e1, q⟩ => ?_
  · rcases h4 with h4 | h4
    · exact sws_plain h4
    · exact sws_cell (by rw [c.c.hsc]; exact isCell_of h4)
  · simp only [exS, asg, Option.bind_eq_some_iff, Option.map_some, Option.some.injEq] at e1
    obtain ⟨⟨d, M1⟩, e2, e3⟩ := e1
    cases e3
    exact ⟨env, W, M, d, _, re, wr, e2, fun W1 H1 v1 x1 w1 r1 => q W1 H1 _ x1 w1 ((re.mono wr x1).set r1 i)⟩
theorem snd_setT {t : Tg} {tg v : Expr} {pos : Pos} {e : E} (c : Cs T call N sc k X) (h0 : isTup tg = true) (h1 : chkT N sc t tg = true) (h3 : chkE T N e sc sc v = true) (h4 : isComp v = false) (h5 : swNone sc tg v = true) : PS X (.Assign [tg] v pos) (tySt (kwOf X) (exS call (.set t e))) := by
  have hg := (good_of (N := N) (raw := sc) (t := t)).1 h1
  have hk : X.env.scope.kind = .function := by rw [c.c.hsc]; exact c.kind
  have hw : swappedStores [tg] v X.env = pure none := by
    cases tg with
    | Tuple ts k1 p1 =>
      by_cases hv : isTup v = true
      · cases v with
        | Tuple vs k2 p2 =>
          refine sw_pure hk ?_
          simp only [swNone] at h5
          have : X.env.kindOf = fun x => sc.names.lookup x := by funext x; show X.env.scope.names.lookup x = _; rw [c.c.hsc]
          rw [this]
          split at h5
          · assumption
          · cases h5
        | _ => simp [isTup] at hv
      · exact sw_none (by simpa using hv)
    | _ => simp [isTup] at h0
  have h1' : (assignEach [tg] X.env).map (·.2) = [assign tg X.env] := by cases tg <;> first | rfl | (simp [isTup] at h0)
  refine ps_imp (ps_asg ((sndE T call e).pe c.c h3) ((pg_all c.c t).1 tg h1) (sws_plain h4) hw h1') fun D σ H ⟨env, W, M, fl, env', M', re, wr, e1, q⟩ => ?_
  simp only [exS, Option.bind_eq_some_iff, Option.map_eq_some_iff] at e1
  obtain ⟨⟨d, M1⟩, e2, env2, e3, e4⟩ := e1
  cases e4
  exact ⟨env, W, M, d, _, re, wr, e2, fun W1 H1 v1 x1 w1 r1 => (asg_all t hg).1 d env _ v1 σ _ e3 (re.mono wr x1) r1 fun σ' re' _ => q W1 H1 σ' x1 w1 re'⟩
end
end DL

set_option maxRecDepth 100000
namespace DL
open PySem PySem.Spec PyProof.Rows L2
section
variable {T : Tab} {call : CallF} {N : List Str} {sc : Scope} {k : Nat} {X : Cx}
theorem snd_setc {i : Nat} {x : Str} {p p2 pos : Pos} {elt : Expr} {gs : List Comprehension} {scope : Scope} {e : E} (c : Cs T call N sc k X) (h1 : N[i]? = some x) (h2 : isLoc sc x = true) (h3 : (p.line == p2.line) = true)
    (h4 : (scope.names.any fun (n, k) => n == x && (k == .local || k == .cell)) = false) (h5 : chkE T N e sc sc (.ListComp elt gs scope p2) = true) : PS X (.Assign [.Name x p] (.ListComp elt gs scope p2) pos) (tySt (kwOf X) (exS call (.setc i e))) := by
  have hl := isLoc_of h2
  have hk : X.env.scope.kind = .function := by rw [c.c.hsc]; exact c.kind
  cases e with
  | comp m t own it cd el =>
    rcases gs with _ | ⟨⟨tg, iter, ifs, as⟩, _ | ⟨_, _⟩⟩
    · simp [chkE] at h5
    · by_cases has : as = 0
      · subst has
        have h : (blkC N sc scope (own.map fun i => (N.getD i "", i)) && own.all (fun i => decide (i < N.length)) && tgIn t own && chkT N scope t tg && chkI T N it sc sc (isTup tg) iter && chkCs (fun x => chkE T N cd scope (relS scope sc) x) (isYes cd) ifs && chkE T N el scope (relS scope sc) elt) = true := h5
        simp only [Bool.and_eq_true] at h
        obtain ⟨⟨⟨⟨⟨⟨g1, g2⟩, g3⟩, g4⟩, g5⟩, g6⟩, g7⟩ := h
        obtain ⟨i1, i2⟩ := (sndE T call it).pi c.c g5
        have hi := i2 tg fun ht => by
          cases tg <;> simp [isTup] at ht
          exact ⟨_, _, _, rfl⟩
        have hif : ∀ Y, Ck T call N scope (relS scope sc) k Y → PTs Y ifs (tyT (kwOf Y) (evT call cd)) := fun Y cy => by
          rcases ifs with _ | ⟨x, _ | ⟨_, _⟩⟩
          · simp only [chkCs] at g6
            cases cd <;> simp [isYes] at g6
            refine pts_imp pts_nil fun σ H Q ⟨env, W, M, b, M', re, wr, e, q⟩ => ?_
            simp only [evT] at e
            cases e
            exact q.now wr
          · exact pts_one ((sndE T call cd).pt cy g6)
          · simp [chkCs] at g6
        have ok : BlkOk X.N X.env.scope scope (own.map fun i => (N.getD i "", i)) := by
          rw [c.c.hN, c.c.hsc]; exact blkOk_by g1
        have ho : (own.map fun i => (N.getD i ("" : Str), i)).map (·.2) = own := by
          rw [List.map_map]
          conv => rhs; rw [← List.map_id own]
          rfl
        have hg := (good_of (N := N) (raw := scope) (t := t)).1 g4
        have ps := ps_setLc (X := X) (i := i) (y := x) (py := p) (pos := p2) (spos := pos) (own := own.map fun i => (N.getD i "", i)) (g := gOf X.K t) (tt := tyT (kwOf X) (evT call cd)) (te := tyE (kwOf X) (evE call el)) c.c.calm (by rw [c.c.hN]; exact c.c.nd) (by rw [c.c.hN]; exact h1) (by rw [c.c.hsc]; exact hl)
          (sw_true hk (by rw [c.c.hsc]; exact hl) h3 h4) hi ok
          (fun s H C cl fp => (pg_all (c.c.blk (s := s) (H := H) (scope := scope) (C := C) (cl := cl) (fp := fp)) t).1 tg g4) (fun s H C cl fp => hif _ c.c.blk) (fun s H C cl fp => (sndE T call el).pe c.c.blk g7) (fold_plain i1)
        rw [ho] at ps
        refine ps_imp ps fun D σ H ⟨env, W, M, fl, env', M', re, wr, e1, q⟩ => ?_
        simp only [exS, evE, Option.bind_eq_some_iff] at e1
        obtain ⟨⟨d, M1⟩, ⟨⟨I, Ma⟩, e1, ⟨accF, M2⟩, e2, e3⟩, e4⟩ := e1
        cases e4
        refine ⟨env, W, M, I, Ma, re, wr, e1, fun W1 H1 J x1 w1 ok1 P hP => ?_⟩
        refine comp_turns (Q := fun x1 H1 => gName i x1 σ H1 D.nx) hg g3 w1 (re.mono wr x1) ok1 e2 e3 ?_ hP
        exact fun W2 H2 v2 x2 w2 r2 => q W2 H2 _ (x1.trans x2) w2 ((re.mono wr (x1.trans x2)).set r2 i)
      · exfalso
        cases as with
        | ofNat n =>
          cases n with
          | zero => exact absurd rfl has
          | succ _ => exact absurd (show false = true from h5) Bool.false_ne_true
        | negSucc _ => exact absurd (show false = true from h5) Bool.false_ne_true
    · simp [chkE] at h5
  | comp2 m t own it t1 own1 it1 el =>
    simp only [chkE] at h5
    split at h5
    · rename_i tg iter tg1 iter1 hgs
      obtain rfl := gs2_eq hgs
      simp only [Bool.and_eq_true, Bool.not_eq_true'] at h5
      obtain ⟨⟨⟨⟨⟨⟨⟨⟨⟨⟨g1, g2⟩, g3⟩, g4⟩, g5⟩, g6⟩, g7⟩, gs⟩, g8⟩, g9⟩, g10⟩ := h5
      obtain ⟨i1, hi⟩ := (sndE T call it).pi c.c g8
      have hi := hi tg fun ht => by
        cases tg <;> simp [isTup] at ht
        exact ⟨_, _, _, rfl⟩
      have ht1 : isTup tg1 = true → ∃ elts kk pos, tg1 = .Tuple elts kk pos := fun ht => by
        cases tg1 <;> simp [isTup] at ht
        exact ⟨_, _, _, rfl⟩
      have ok : BlkOk X.N X.env.scope scope (own.map fun i => (N.getD i "", i)) := by
        rw [c.c.hN, c.c.hsc]; exact blkOk_by g1
      have ho : (own.map fun i => (N.getD i ("" : Str), i)).map (·.2) = own := by
        rw [List.map_map]
        conv => rhs; rw [← List.map_id own]
        rfl
      have hv : ∀ i ∈ own1, i ∈ own := fun i hi => by
        rw [List.all_eq_true] at g3
        simpa using g3 i hi
      have hg := (good_of (N := N) (raw := scope) (t := t)).1 g6
      have hg1 := (good_of (N := N) (raw := scope) (t := t1)).1 g7
      have ps := ps_setLc2 (X := X) (i := i) (y := x) (py := p) (pos := p2) (spos := pos) (own := own.map fun i => (N.getD i "", i)) (vs1 := own1) (ifs := []) (ifs1 := []) (g := gOf X.K t) (g1 := gOf X.K t1) (te := tyE (kwOf X) (evE call el)) (wi1 := tyI (kwOf X) (evIt call it1)) c.c.calm (by rw [c.c.hN]; exact c.c.nd) (by rw [c.c.hN]; exact h1) (by rw [c.c.hsc]; exact hl)
        (sw_true hk (by rw [c.c.hsc]; exact hl) h3 h4) hi ok (fun i hi => by rw [ho]; exact hv i hi)
        (fun s H C cl fp => (pg_all (c.c.blk (s := s) (H := H) (scope := scope) (C := C) (cl := cl) (fp := fp)) t).1 tg g6) (fun s H C cl fp => pts_nil) (fun s H C cl fp => ((sndE T call it1).pi (c.c.blk (s := s) (H := H) (scope := scope) (C := C) (cl := cl) (fp := fp)) g9).2 tg1 ht1)
        (fun s H C cl fp => (pg_all (c.c.blk (s := s) (H := H) (scope := scope) (C := C) (cl := cl) (fp := fp)) t1).1 tg1 g7) (fun s H C cl fp => pts_nil) (fun s H C cl fp => (sndE T call el).pe c.c.blk g10) (fold_plain i1) (fun env => fold_plain gs)
      rw [ho] at ps
      refine ps_imp ps fun D σ H ⟨env, W, M, fl, env', M', re, wr, e1, q⟩ => ?_
      simp only [exS, evE, Option.bind_eq_some_iff] at e1
      obtain ⟨⟨d, M1⟩, ⟨⟨I, Ma⟩, e1, ⟨accF, M2⟩, e2, e3⟩, e4⟩ := e1
      cases e4
      refine ⟨env, W, M, I, Ma, re, wr, e1, fun W1 H1 J x1 w1 ok1 P hP => ?_⟩
      refine comp2_turns (Q := fun x1 H1 => gName i x1 σ H1 D.nx) hg g4 hg1 g5 w1 (re.mono wr x1) ok1 e2 e3 ?_ hP (fun _ _ _ q => q) (fun _ _ _ q => q)
      exact fun W2 H2 v2 x2 w2 r2 => q W2 H2 _ (x1.trans x2) w2 ((re.mono wr (x1.trans x2)).set r2 i)
    · cases h5
  | _ => simp [chkE] at h5
theorem tp2 {is : List Nat} {ts : List Expr} (h : chkPar N sc is ts = true) : is.length = ts.length := by
  induction is generalizing ts with
  | nil => cases ts <;> simp [chkPar] at h ⊢
  | cons i is ih =>
    cases ts with
    | nil => simp [chkPar] at h
    | cons t ts =>
      cases t <;> simp [chkPar] at h
      simp [ih h.2]
theorem par_names {ts : List Expr} {kd : Str → Option NameKind} {l : Nat} {names : List Str} (h : (ts.filterMap (nameLoc kd l)).length = ts.length) : ∀ x ∈ ts, ∃ id, nameLoc kd l x = some id := by
  induction ts with
  | nil => simp
  | cons t ts ih =>
    cases q : nameLoc kd l t with
    | none =>
      rw [List.filterMap_cons, q] at h
      have := List.length_filterMap_le (nameLoc kd l) ts
      simp at h; omega
    | some id =>
      rw [List.filterMap_cons, q] at h
      intro x hx
      rcases List.mem_cons.mp hx with e | hx
      · subst e; exact ⟨id, q⟩
      · exact ih (by simpa using h) x hx
theorem snd_par {is : List Nat} {es : E} {ts vs : List Expr} {k1 k2 : Nat} {p1 p2 pos : Pos} (c : Cs T call N sc k X) (h1 : chkPar N sc is ts = true) (h2 : is.Nodup) (h3 : chkEs T N es sc sc vs = true) (hst : (vs.all fun e => !isStar e) = true) (h5 : ∃ names, swPure ts vs (fun x => sc.names.lookup x) = some (some names)) :
    PS X (.Assign [.Tuple ts k1 p1] (.Tuple vs k2 p2) pos) (tySt (kwOf X) (exS call (.par is es))) := by
  obtain ⟨names, h5⟩ := h5
  have hk : X.env.scope.kind = .function := by rw [c.c.hsc]; exact c.kind
  have hkd : X.env.kindOf = fun x => sc.names.lookup x := by funext x; show X.env.scope.names.lookup x = _; rw [c.c.hsc]
  have ha := (sndE T call es).pa c.c h3
  have h6 := h5
  unfold swPure at h6
  split at h6
  · cases h6
  · rename_i hl
    simp only [Bool.or_eq_true, Bool.not_eq_true', bne_iff_ne, ne_eq, not_or, Bool.not_eq_false, beq_iff_eq, Decidable.not_not] at hl
    split at h6
    · cases h6
    · split at h6
      · cases h6
      · rename_i hnm
        split at h6
        · cases h6
        · split at h6
          · cases h6
          · simp only [Option.some.injEq] at h6
            have hlen := tp2 h1
            rcases hl.1 with hl2 | hl3
            · rcases ts with _ | ⟨t1, _ | ⟨t2, _ | ⟨_, _⟩⟩⟩ <;> simp at hl2
              rcases is with _ | ⟨i, _ | ⟨j, _ | ⟨_, _⟩⟩⟩ <;> simp at hlen
              rcases vs with _ | ⟨a, _ | ⟨b, _ | ⟨_, _⟩⟩⟩ <;> simp at hl
              obtain ⟨x, px, rfl⟩ : ∃ x px, t1 = .Name x px := by cases t1 <;> first | exact ⟨_, _, rfl⟩ | simp [chkPar] at h1
              obtain ⟨y, py, rfl⟩ : ∃ x px, t2 = .Name x px := by cases t2 <;> first | exact ⟨_, _, rfl⟩ | simp [chkPar] at h1
              simp [chkPar] at h1
              obtain ⟨⟨a1, a2⟩, ⟨b1, b2⟩⟩ := h1
              have hij : i ≠ j := by simp at h2; exact h2
              have hw : swappedStores [.Tuple [.Name x px, .Name y py] k1 p1] (.Tuple [a, b] k2 p2) X.env = pure (some [x, y]) := by
                refine sw_pure hk ?_
                rw [hkd, h5, ← h6]
                have n1 : nameLoc (fun x => sc.names.lookup x) px.line (.Name x px) = some x := by simp [nameLoc, isLoc_of a2]
                have n2 : nameLoc (fun x => sc.names.lookup x) px.line (.Name y py) = some y := by
                  simp only [List.head?_cons, Option.map_some, Option.getD_some] at hnm
                  have : (Expr.Name x px).pos = px := rfl
                  rw [this] at hnm
                  cases q : nameLoc (fun x => sc.names.lookup x) px.line (.Name y py) with
                  | none => rw [List.filterMap_cons, List.filterMap_cons, n1, q] at hnm; simp at hnm
                  | some z =>
                    have : z = y := by
                      simp only [nameLoc] at q
                      split at q
                      · exact (Option.some.inj q).symm
                      · cases q
                    rw [this]
                simp only [List.head?_cons, Option.map_some, Option.getD_some]
                have : (Expr.Name x px).pos = px := rfl
                rw [this, List.filterMap_cons, List.filterMap_cons, n1, n2]
                rfl
              refine ps_imp (ps_par c.c.calm (by rw [c.c.hN]; exact c.c.nd) (by rw [c.c.hN]; exact a1) (by rw [c.c.hN]; exact b1) hij (by rw [c.c.hsc]; exact isLoc_of a2) (by rw [c.c.hsc]; exact isLoc_of b2) ha hw rfl) fun D σ H ⟨env, W, M, fl, env', M', re, wr, e1, q⟩ => ?_
              simp only [exS, Option.bind_eq_some_iff] at e1
              obtain ⟨⟨ds, M1⟩, e2, e3⟩ := e1
              cases e3
              refine ⟨env, W, M, ds, _, re, wr, e2, fun W1 H1 us x1 w1 r1 => ?_⟩
              have hds : ∃ d1 d2, ds = [d1, d2] := by
                have hl := chkEs_len hst h3 e2
                match ds, hl with
                | [d1, d2], _ => exact ⟨_, _, rfl⟩
              obtain ⟨d1, d2, rfl⟩ := hds
              obtain ⟨v1, v2, rfl, r2, r3⟩ := r1.two_inv
              exact ⟨v1, v2, rfl, q W1 H1 _ x1 w1 (((re.mono wr x1).set r2 i).set r3 j)⟩
            · rcases ts with _ | ⟨t1, _ | ⟨t2, _ | ⟨t3, _ | ⟨_, _⟩⟩⟩⟩ <;> simp at hl3
              rcases is with _ | ⟨i, _ | ⟨j, _ | ⟨l, _ | ⟨_, _⟩⟩⟩⟩ <;> simp at hlen
              rcases vs with _ | ⟨a, _ | ⟨b, _ | ⟨d, _ | ⟨_, _⟩⟩⟩⟩ <;> simp at hl
              obtain ⟨x, px, rfl⟩ : ∃ x px, t1 = .Name x px := by cases t1 <;> first | exact ⟨_, _, rfl⟩ | simp [chkPar] at h1
              obtain ⟨y, py, rfl⟩ : ∃ x px, t2 = .Name x px := by cases t2 <;> first | exact ⟨_, _, rfl⟩ | simp [chkPar] at h1
              obtain ⟨z, pz, rfl⟩ : ∃ x px, t3 = .Name x px := by cases t3 <;> first | exact ⟨_, _, rfl⟩ | simp [chkPar] at h1
              simp [chkPar] at h1
              obtain ⟨⟨a1, a2⟩, ⟨b1, b2⟩, ⟨c1, c2⟩⟩ := h1
              have hij : (i ≠ j ∧ i ≠ l) ∧ j ≠ l := by simp at h2; exact ⟨⟨h2.1.1, h2.1.2⟩, h2.2⟩
              have hw : swappedStores [.Tuple [.Name x px, .Name y py, .Name z pz] k1 p1] (.Tuple [a, b, d] k2 p2) X.env = pure (some [x, y, z]) := by
                refine sw_pure hk ?_
                rw [hkd, h5, ← h6]
                simp only [List.head?_cons, Option.map_some, Option.getD_some] at hnm ⊢
                have hp : (Expr.Name x px).pos = px := rfl
                rw [hp] at hnm ⊢
                simp only [Bool.or_eq_true, bne_iff_ne, ne_eq, not_or, Decidable.not_not] at hnm
                have al := par_names (names := []) hnm.1
                have nm : ∀ (w : Str) (pw : Pos), (.Name w pw) ∈ [Expr.Name x px, .Name y py, .Name z pz] → nameLoc (fun x => sc.names.lookup x) px.line (.Name w pw) = some w := fun w pw hm => by
                  obtain ⟨id, hid⟩ := al _ hm
                  have : id = w := by
                    simp only [nameLoc] at hid
                    split at hid
                    · exact (Option.some.inj hid).symm
                    · cases hid
                  rw [hid, this]
                rw [List.filterMap_cons, List.filterMap_cons, List.filterMap_cons, nm x px (by simp), nm y py (by simp), nm z pz (by simp)]
                rfl
              refine ps_imp (ps_par3 c.c.calm (by rw [c.c.hN]; exact c.c.nd) (by rw [c.c.hN]; exact a1) (by rw [c.c.hN]; exact b1) (by rw [c.c.hN]; exact c1) hij.1.1 hij.1.2 hij.2 (by rw [c.c.hsc]; exact isLoc_of a2) (by rw [c.c.hsc]; exact isLoc_of b2) (by rw [c.c.hsc]; exact isLoc_of c2) ha hw rfl) fun D σ H ⟨env, W, M, fl, env', M', re, wr, e1, q⟩ => ?_
              simp only [exS, Option.bind_eq_some_iff] at e1
              obtain ⟨⟨ds, M1⟩, e2, e3⟩ := e1
              cases e3
              refine ⟨env, W, M, ds, _, re, wr, e2, fun W1 H1 us x1 w1 r1 => ?_⟩
              have hds : ∃ d1 d2 d3, ds = [d1, d2, d3] := by
                have hl := chkEs_len hst h3 e2
                match ds, hl with
                | [d1, d2, d3], _ => exact ⟨_, _, _, rfl⟩
              obtain ⟨d1, d2, d3, rfl⟩ := hds
              simp only [DRs] at r1
              obtain ⟨v1, _, rfl, r2, v2, _, rfl, r3, v3, _, rfl, r4, rfl⟩ := r1
              exact ⟨v1, v2, v3, rfl, q W1 H1 _ x1 w1 ((((re.mono wr x1).set r2 i).set r3 j).set r4 l)⟩
theorem snd_put {o i e : E} {x y v : Expr} {p pos : Pos} (c : Cs T call N sc k X) (h0 : isSlice y = false) (h1 : chkE T N o sc sc x = true) (h2 : chkE T N i sc sc y = true) (h3 : chkE T N e sc sc v = true) : PS X (.Assign [.Subscript x y p] v pos) (tySt (kwOf X) (exS call (.put o i e))) := by
  have ha : ∀ v, assign (.Subscript x y p) X.env v = (do
      let ov ← holding [v] (eval x X.env)
      let iv ← holding [v, ov] (eval y X.env)
      standAt p
      holding [v, ov, iv] (setItem ov iv v)
      release [v, ov, iv] []) := by
    intro v
    cases y <;> first | rfl | (simp [isSlice] at h0)
  refine ps_imp (ps_asg ((sndE T call e).pe c.c h3) (pg_sub ((sndE T call o).pe c.c h1) ((sndE T call i).pe c.c h2) (setR_ok c.c.units) ha) (show swapsWith v (some (.Subscript x y p)) pos.line X.env = pure false from sws_sub) (by unfold swappedStores; cases v <;> rfl) rfl) fun D σ H ⟨env, W, M, fl, env', M', re, wr, e1, q⟩ => ?_
  simp only [exS, Option.bind_eq_some_iff, Option.map_eq_some_iff] at e1
  obtain ⟨⟨d, M1⟩, e2, ⟨d2, M2⟩, e3, ⟨d3, M3⟩, e4, M4, e5, e6⟩ := e1
  cases e6
  exact ⟨env, W, M, d, M1, re, wr, e2, fun W1 H1 v1 x1 w1 r1 => ⟨env, W1, M1, d2, M2, re.mono wr x1, w1, e3, fun W2 H2 v2 x2 w2 r2 => ⟨env, W2, M2, d3, M3, re.mono wr (x1.trans x2), w2, e4, fun W3 H3 v3 x3 w3 r3 =>
    semPut_ok w3 (r2.mono w2 x3) r3 ((r1.mono w1 x2).mono w2 x3) e5 fun W4 H4 x4 w4 => q W4 H4 σ (((x1.trans x2).trans x3).trans x4) w4 (re.mono wr (((x1.trans x2).trans x3).trans x4))⟩⟩⟩
end
structure SndS (T : Tab) (call : CallF) (s : S) : Prop where
  ps : ∀ {k N sc X st}, Cs T call N sc k X → chkS T N s sc st = true → PS X st (tySt (kwOf X) (exS call s))
  pss : ∀ {k N sc X l}, Cs T call N sc k X → chkSs T N s sc l = true → PSs X l (tySt (kwOf X) (exS call s))
theorem sndS (T : Tab) (call : CallF) : ∀ s : S, SndS T call s := by
  intro s
  induction s with
  | nil =>
    refine ⟨fun {k N sc X st} c h => by cases st <;> simp [chkS] at h, fun {k N sc X l} c h => ?_⟩
    cases l with
    | nil =>
      refine pss_imp pss_nil fun D σ H ⟨env, W, M, fl, env', M', re, wr, e1, q⟩ => ?_
      simp only [exS] at e1
      cases e1
      exact q W H σ wr.refl wr re
    | cons _ _ => simp [chkSs] at h
  | seq s r ihs ihr =>
    refine ⟨fun {k N sc X st} c h => by cases st <;> simp [chkS] at h, fun {k N sc X l} c h => ?_⟩
    cases l with
    | nil => simp [chkSs] at h
    | cons st l =>
      simp only [chkSs, Bool.and_eq_true] at h
      refine pss_imp (pss_cons (ihs.ps c h.1) (ihr.pss c h.2)) fun D σ H ⟨env, W, M, fl, env', M', re, wr, e1, q⟩ => ?_
      simp only [exS, Option.bind_eq_some_iff] at e1
      obtain ⟨⟨f1, env1, M1⟩, e2, e3⟩ := e1
      refine ⟨env, W, M, f1, env1, M1, re, wr, e2, ?_⟩
      cases f1 with
      | nx => exact fun W1 H1 σ1 x1 w1 r1 => ⟨env1, W1, M1, fl, env', M', r1, w1, e3, q.ext x1⟩
      | rt d => cases e3; exact q
      | bk => cases e3; exact q
      | ct => cases e3; exact q
  | set t e =>
    refine ⟨fun {k N sc X st} c h => ?_, fun {k N sc X l} c h => by simp [chkSs] at h⟩
    cases st with
    | Assign tgs v pos =>
      rcases tgs with _ | ⟨tg, _ | ⟨_, _⟩⟩
      · cases t <;> simp [chkS] at h
      · cases t with
        | nm i =>
          cases tg with
          | Name x p =>
            simp only [chkS, Bool.and_eq_true, decide_eq_true_eq, Bool.or_eq_true, Bool.not_eq_true'] at h
            exact snd_set c h.1.1.1 h.1.1.2 h.1.2 h.2
          | _ => simp [chkS, isTup, chkT] at h
        | nil =>
          simp only [chkS, Bool.and_eq_true, Bool.not_eq_true'] at h
          exact snd_setT c h.1.1.1.1 h.1.1.1.2 h.1.1.2 h.1.2 h.2
        | cons a b =>
          simp only [chkS, Bool.and_eq_true, Bool.not_eq_true'] at h
          exact snd_setT c h.1.1.1.1 h.1.1.1.2 h.1.1.2 h.1.2 h.2
      · cases t <;> cases tg <;> exact absurd (show false = true from h) Bool.false_ne_true
    | _ => cases t <;> simp [chkS] at h
  | setc i e =>
    refine ⟨fun {k N sc X st} c h => ?_, fun {k N sc X l} c h => by simp [chkSs] at h⟩
    cases st with
    | Assign tgs v pos =>
      rcases tgs with _ | ⟨tg, _ | ⟨_, _⟩⟩
      · simp [chkS] at h
      · cases tg <;> cases v <;> simp only [chkS, Bool.false_eq_true, Bool.and_eq_true, decide_eq_true_eq, Bool.not_eq_true'] at h
        exact snd_setc c h.1.1.1.1 h.1.1.1.2 h.1.1.2 h.1.2 h.2
      · cases tg <;> cases v <;> exact absurd (show false = true from h) Bool.false_ne_true
    | _ => simp [chkS] at h
  | par is es =>
    refine ⟨fun {k N sc X st} c h => ?_, fun {k N sc X l} c h => by simp [chkSs] at h⟩
    cases st with
    | Assign tgs v pos =>
      rcases tgs with _ | ⟨tg, _ | ⟨_, _⟩⟩
      · simp [chkS] at h
      · cases tg <;> cases v <;> simp only [chkS, Bool.false_eq_true, Bool.and_eq_true, decide_eq_true_eq] at h
        refine snd_par c h.1.1.1.1 h.1.1.1.2 h.1.1.2 h.1.2 ?_
        have := h.2
        split at this
        · exact ⟨_, by assumption⟩
        · cases this
      · cases tg <;> cases v <;> exact absurd (show false = true from h) Bool.false_ne_true
    | _ => simp [chkS] at h
  | put o i e =>
    refine ⟨fun {k N sc X st} c h => ?_, fun {k N sc X l} c h => by simp [chkSs] at h⟩
    cases st with
    | Assign tgs v pos =>
      rcases tgs with _ | ⟨tg, _ | ⟨_, _⟩⟩
      · simp [chkS] at h
      · cases tg with
        | Subscript x y p =>
          simp only [chkS, Bool.and_eq_true, Bool.not_eq_true'] at h
          exact snd_put c h.1.1.1 h.1.1.2 h.1.2 h.2
        | _ => simp [chkS] at h
      · cases tg <;> cases v <;> exact absurd (show false = true from h) Bool.false_ne_true
    | _ => simp [chkS] at h
  | expr e =>
    refine ⟨fun {k N sc X st} c h => ?_, fun {k N sc X l} c h => by simp [chkSs] at h⟩
    cases st with
    | Expr x pos =>
      simp only [chkS, Bool.and_eq_true, Bool.not_eq_true'] at h
      refine ps_imp (ps_expr ((sndE T call e).pe c.c h.2) (sws_plain h.1)) fun D σ H ⟨env, W, M, fl, env', M', re, wr, e1, q⟩ => ?_
      simp only [exS, Option.bind_eq_some_iff] at e1
      obtain ⟨⟨d, M1⟩, e2, e3⟩ := e1
      cases e3
      exact ⟨env, W, M, d, _, re, wr, e2, fun W1 H1 v1 x1 w1 r1 => q W1 H1 σ x1 w1 (re.mono wr x1)⟩
    | _ => simp [chkS] at h
  | ret e =>
    refine ⟨fun {k N sc X st} c h => ?_, fun {k N sc X l} c h => by simp [chkSs] at h⟩
    cases st with
    | Return v pos =>
      cases v with
      | none => simp [chkS] at h
      | some x =>
        simp only [chkS] at h
        refine ps_imp (ps_ret ((sndE T call e).pe c.c h)) fun D σ H ⟨env, W, M, fl, env', M', re, wr, e1, q⟩ => ?_
        simp only [exS, Option.bind_eq_some_iff] at e1
        obtain ⟨⟨d, M1⟩, e2, e3⟩ := e1
        cases e3
        exact ⟨env, W, M, d, _, re, wr, e2, fun W1 H1 v1 x1 w1 r1 => q W1 H1 v1 x1 w1 r1⟩
    | _ => simp [chkS] at h
  | retN =>
    refine ⟨fun {k N sc X st} c h => ?_, fun {k N sc X l} c h => by simp [chkSs] at h⟩
    cases st with
    | Return v pos =>
      cases v with
      | some x => simp [chkS] at h
      | none =>
        refine ps_imp ps_retN fun D σ H ⟨env, W, M, fl, env', M', re, wr, e1, q⟩ => ?_
        simp only [exS] at e1
        cases e1
        exact q W H _ wr.refl wr dr_non
    | _ => simp [chkS] at h
  | ite cd a b iha ihb =>
    refine ⟨fun {k N sc X st} c h => ?_, fun {k N sc X l} c h => by simp [chkSs] at h⟩
    cases st with
    | If x l r pos =>
      simp only [chkS, Bool.and_eq_true] at h
      refine ps_imp (ps_if ((sndE T call cd).pt c.c h.1.1) (iha.pss c h.1.2) (ihb.pss c h.2)) fun D σ H ⟨env, W, M, fl, env', M', re, wr, e1, q⟩ => ?_
      simp only [exS, Option.bind_eq_some_iff] at e1
      obtain ⟨⟨bb, M1⟩, e2, e3⟩ := e1
      refine ⟨env, W, M, bb, M1, re, wr, e2, fun W1 H1 x1 w1 => ?_⟩
      cases bb with
      | true => simp only [if_true] at e3 ⊢; exact ⟨env, W1, M1, fl, env', M', re.mono wr x1, w1, e3, q.ext x1⟩
      | false => simp only [Bool.false_eq_true, if_false] at e3 ⊢; exact ⟨env, W1, M1, fl, env', M', re.mono wr x1, w1, e3, q.ext x1⟩
    | _ => simp [chkS] at h
  | for_ t it b ihb =>
    refine ⟨fun {k N sc X st} c h => ?_, fun {k N sc X l} c h => by simp [chkSs] at h⟩
    cases st with
    | For tg iter l r pos =>
      cases r with
      | cons _ _ => simp [chkS] at h
      | nil =>
        simp only [chkS, Bool.and_eq_true] at h
        obtain ⟨i1, i2⟩ := (sndE T call it).pi c.c h.1.2
        have hi := i2 tg fun ht => by
          cases tg <;> simp [isTup] at ht
          exact ⟨_, _, _, rfl⟩
        have hg := (good_of (N := N) (raw := sc) (t := t)).1 h.1.1
        refine ps_imp (ps_for (by rw [c.c.xe]; exact PassesOwn.never) c.c.calm hi ((pg_all c.c t).1 tg h.1.1) (ihb.pss c h.2) (fold_plain i1)) fun D σ H ⟨env, W, M, fl, env', M', re, wr, e1, q⟩ => ?_
        simp only [exS, Option.bind_eq_some_iff] at e1
        obtain ⟨⟨I, M1⟩, e2, e3⟩ := e1
        exact ⟨env, W, M, I, M1, re, wr, e2, fun W1 H1 J x1 w1 ok1 => for_turns hg w1 (re.mono wr x1) ok1 e3 (q.ext x1)⟩
    | _ => simp [chkS] at h
  | while_ cd b ihb =>
    refine ⟨fun {k N sc X st} c h => ?_, fun {k N sc X l} c h => by simp [chkSs] at h⟩
    cases st with
    | While x l r pos =>
      cases r with
      | cons _ _ => simp [chkS] at h
      | nil =>
        simp only [chkS, Bool.and_eq_true] at h
        refine ps_imp (ps_while (by rw [c.c.xe]; exact PassesOwn.never) ((sndE T call cd).pt c.c h.1) (ihb.pss c h.2)) fun D σ H ⟨env, W, M, fl, env', M', re, wr, e1, q⟩ => ?_
        simp only [exS] at e1
        exact while_turns wr re e1 q
    | _ => simp [chkS] at h
  | brk =>
    refine ⟨fun {k N sc X st} c h => ?_, fun {k N sc X l} c h => by simp [chkSs] at h⟩
    cases st with
    | Break pos =>
      refine ps_imp ps_break fun D σ H ⟨env, W, M, fl, env', M', re, wr, e1, q⟩ => ?_
      simp only [exS] at e1
      cases e1
      exact q W H σ wr.refl wr re
    | _ => simp [chkS] at h
  | cont =>
    refine ⟨fun {k N sc X st} c h => ?_, fun {k N sc X l} c h => by simp [chkSs] at h⟩
    cases st with
    | Continue pos =>
      refine ps_imp ps_continue fun D σ H ⟨env, W, M, fl, env', M', re, wr, e1, q⟩ => ?_
      simp only [exS] at e1
      cases e1
      exact q W H σ wr.refl wr re
    | _ => simp [chkS] at h
  | pass =>
    refine ⟨fun {k N sc X st} c h => ?_, fun {k N sc X l} c h => by simp [chkSs] at h⟩
    cases st with
    | Pass pos =>
      refine ps_imp ps_pass fun D σ H ⟨env, W, M, fl, env', M', re, wr, e1, q⟩ => ?_
      simp only [exS] at e1
      cases e1
      exact q W H σ wr.refl wr re
    | _ => simp [chkS] at h
  | never =>
    refine ⟨fun {k N sc X st} c h => ps_imp ps_never fun D σ H ⟨env, W, M, fl, env', M', re, wr, e1, q⟩ => by simp [exS] at e1, fun {k N sc X l} c h => pss_imp pss_never fun D σ H ⟨env, W, M, fl, env', M', re, wr, e1, q⟩ => by simp [exS] at e1⟩
end DL

set_option maxRecDepth 100000
namespace DL
open PySem PySem.Spec PyProof.Rows L2

section
variable {K : Kw} {W W' : Wd} {H H' : Hp} {M M' : Mm}
theorem DR_cl (n : Nat) (hn : W.ids.length ≤ n) : (∀ d v, DR K W H d v → cl n d = true) ∧ ∀ ds vs, DRs K W H ds vs → cls n ds = true := by
  have main : ∀ m : Nat, (∀ d : D, sizeOf d < m → ∀ v, DR K W H d v → cl n d = true) ∧ ∀ ds : List D, sizeOf ds < m → ∀ vs, DRs K W H ds vs → cls n ds = true := by
    intro m
    induction m with
    | zero => exact ⟨fun d h => absurd h (Nat.not_lt_zero _), fun d h => absurd h (Nat.not_lt_zero _)⟩
    | succ m ih =>
      refine ⟨fun d hd v h => ?_, fun ds hd vs h => ?_⟩
      · cases d with
        | non => rfl
        | bl b => rfl
        | int i => rfl
        | str x => rfl
        | tup ds =>
          obtain ⟨a, xs, _, _, r⟩ := h.tup
          simp only [cl]
          exact ih.2 ds (by simp at hd; omega) xs r
        | lst ds =>
          obtain ⟨a, xs, _, _, _, _, r⟩ := h.lst
          simp only [cl]
          exact ih.2 ds (by simp at hd; omega) xs r
        | fz ds =>
          obtain ⟨a, xs, _, _, r⟩ := h.fz
          simp only [cl]
          exact ih.2 ds (by simp at hd; omega) xs r
        | dic ks vs => simp only [DR] at h
        | ref m =>
          obtain ⟨a, _, q⟩ := h.ref
          have := (List.getElem?_eq_some_iff.mp q).1
          simp only [cl, decide_eq_true_eq]
          omega
      · cases ds with
        | nil => rfl
        | cons d ds =>
          simp only [DRs] at h
          obtain ⟨v, r, e, h1, h2⟩ := h
          simp only [cls, Bool.and_eq_true]
          exact ⟨ih.1 d (by simp at hd; omega) v h1, ih.2 ds (by simp at hd; omega) r h2⟩
  exact ⟨fun d v => (main (sizeOf d + 1)).1 d (Nat.lt_succ_self _) v, fun ds vs => (main (sizeOf ds + 1)).2 ds (Nat.lt_succ_self _) vs⟩
/-- what speaks of the first objects alone -/
theorem DR_cut (n : Nat) : (∀ d v, DR K W H d v → cl n d = true → DR K ⟨W.ids.take n, W.hid⟩ H d v) ∧ ∀ ds vs, DRs K W H ds vs → cls n ds = true → DRs K ⟨W.ids.take n, W.hid⟩ H ds vs := by
  have main : ∀ m : Nat, (∀ d : D, sizeOf d < m → ∀ v, DR K W H d v → cl n d = true → DR K ⟨W.ids.take n, W.hid⟩ H d v) ∧ ∀ ds : List D, sizeOf ds < m → ∀ vs, DRs K W H ds vs → cls n ds = true → DRs K ⟨W.ids.take n, W.hid⟩ H ds vs := by
    intro m
    induction m with
    | zero => exact ⟨fun d h => absurd h (Nat.not_lt_zero _), fun d h => absurd h (Nat.not_lt_zero _)⟩
    | succ m ih =>
      refine ⟨fun d hd v h c => ?_, fun ds hd vs h c => ?_⟩
      · cases d with
        | non => rw [h.non]; exact dr_non
        | bl b => rw [h.bl]; exact dr_bl _
        | int i => rw [h.int]; exact dr_int _
        | str x => rw [h.str]; exact dr_str _
        | tup ds =>
          obtain ⟨a, xs, rfl, h1, r⟩ := h.tup
          simp only [cl] at c
          exact dr_tup h1 (ih.2 ds (by simp at hd; omega) xs r c)
        | lst ds =>
          obtain ⟨a, xs, rfl, h1, h2, h3, r⟩ := h.lst
          simp only [cl] at c
          simp only [DR]
          exact ⟨a, xs, rfl, h1, fun q => h2 (List.mem_of_mem_take q), h3, ih.2 ds (by simp at hd; omega) xs r c⟩
        | fz ds =>
          obtain ⟨a, xs, rfl, h1, r⟩ := h.fz
          simp only [cl] at c
          simp only [DR]
          exact ⟨a, xs, rfl, h1, ih.2 ds (by simp at hd; omega) xs r c⟩
        | dic ks vs => simp only [DR] at h
        | ref m =>
          obtain ⟨a, rfl, q⟩ := h.ref
          simp only [cl, decide_eq_true_eq] at c
          exact dr_ref (by show (W.ids.take n)[m]? = some a; rw [List.getElem?_take_of_lt c]; exact q)
      · cases ds with
        | nil => simp only [DRs] at h ⊢; exact h
        | cons d ds =>
          simp only [DRs] at h
          obtain ⟨v, r, rfl, h1, h2⟩ := h
          simp only [cls, Bool.and_eq_true] at c
          exact .cons (ih.1 d (by simp at hd; omega) v h1 c.1) (ih.2 ds (by simp at hd; omega) r h2 c.2)
  exact ⟨fun d v => (main (sizeOf d + 1)).1 d (Nat.lt_succ_self _) v, fun ds vs => (main (sizeOf ds + 1)).2 ds (Nat.lt_succ_self _) vs⟩
theorem Ext.cut (w : WR K W M H) (x : Ext W H W' H') : W'.ids.take M.length = W.ids := by
  obtain ⟨t, e⟩ := x.pre
  rw [e, ← w.len]
  exact List.take_left
theorem trunc (w : WR K W M H) (w' : WR K W' M' H') (x : Ext W H W' H') (ok : okTake M M' = true) :
    WR K ⟨W'.ids.take M.length, W'.hid⟩ (M'.take M.length) H' ∧ Ext W H ⟨W'.ids.take M.length, W'.hid⟩ H' := by
  have ec := x.cut w
  refine ⟨⟨by simp [w'.len], w'.nd.sublist (List.take_sublist _ _), fun a m => w'.dj a (List.mem_of_mem_take m), fun n a o e1 e2 => ?_, w'.hs⟩, ⟨x.hid1, x.hid2, fun a m n => x.dj a m (List.mem_of_mem_take n), x.keep, fun a m => x.new a (List.mem_of_mem_take m), [], by rw [List.append_nil]; exact ec⟩⟩
  have hn : n < M.length := by
    have := (List.getElem?_eq_some_iff.mp e1).1
    have e1' : (W'.ids.take M.length)[n]? = some a := e1
    have := (List.getElem?_eq_some_iff.mp e1').1
    rw [List.length_take] at this
    omega
  have e1' : W'.ids[n]? = some a := by
    have e1' : (W'.ids.take M.length)[n]? = some a := e1
    rwa [List.getElem?_take_of_lt hn] at e1'
  rw [List.getElem?_take_of_lt hn] at e2
  have q := w'.at_ n a o e1' e2
  have hc : clO M.length o = true := by
    unfold okTake at ok
    rw [List.all_eq_true] at ok
    have := ok n (List.mem_range.mpr hn)
    rw [Bool.or_eq_true, decide_eq_true_eq] at this
    rcases this with h | h
    · have hM : M[n]? = some o := by rw [← h]; exact e2
      have hi : ∃ b, W.ids[n]? = some b := ⟨_, List.getElem?_eq_getElem (by rw [w.len]; exact hn)⟩
      obtain ⟨b, hb⟩ := hi
      have q2 := w.at_ n b o hb hM
      cases o with
      | lst ds =>
        obtain ⟨xs, _, r⟩ := q2
        exact (DR_cl M.length (Nat.le_of_eq w.len)).2 ds xs r
      | dic kvs =>
        obtain ⟨xs, _, r⟩ := q2
        have hx := (DR_cl (K := K) (W := W) (H := H) M.length (Nat.le_of_eq w.len)).1
        have : ∀ {kvs : List (D × D)} {xs : List (NestedKey × Addr × Value)}, Al K W H kvs xs → (kvs.all fun p => cl M.length p.1 && cl M.length p.2) = true := by
          intro kvs xs r
          induction r with
          | nil => rfl
          | cons h t ih =>
            obtain ⟨_, h1, u, h2, _⟩ := h
            rw [List.all_cons, ih, hx _ _ h1, hx _ _ h2]; rfl
        exact this r
    · rw [e2] at h; simpa using h
  cases o with
  | lst ds =>
    obtain ⟨xs, h1, r⟩ := q
    exact ⟨xs, h1, (DR_cut M.length).2 ds xs r hc⟩
  | dic kvs =>
    obtain ⟨xs, h1, r⟩ := q
    refine ⟨xs, h1, ?_⟩
    have hx := (DR_cut (K := K) (W := W') (H := H') M.length).1
    have : ∀ {kvs : List (D × D)} {xs : List (NestedKey × Addr × Value)}, Al K W' H' kvs xs → (kvs.all fun p => cl M.length p.1 && cl M.length p.2) = true → Al K ⟨W'.ids.take M.length, W'.hid⟩ H' kvs xs := by
      intro kvs xs r
      induction r with
      | nil => intro _; exact .nil
      | cons h t ih =>
        intro e
        rw [List.all_cons, Bool.and_eq_true, Bool.and_eq_true] at e
        obtain ⟨h0, h1, u, h2, h3⟩ := h
        exact .cons ⟨h0, hx _ _ h1 e.1.1, u, hx _ _ h2 e.1.2, h3⟩ (ih e.2)
    exact this r hc
theorem frz_all {n : Nat} (w' : WR K W' M' H') : ∀ (k : Nat) (d d' : D) (v : V), frz n M' k d = some d' → DR K W' H' d v → DR K ⟨W'.ids.take n, W'.hid⟩ H' d' v
  | 0, _, _, _, e, _ => by simp [frz] at e
  | k + 1, d, d', v, e, r => by
    have all : ∀ (ds es : List D) (xs : List V), ds.mapM (frz n M' k) = some es → DRs K W' H' ds xs → DRs K ⟨W'.ids.take n, W'.hid⟩ H' es xs := by
      intro ds
      induction ds with
      | nil => intro es xs e r; simp at e; subst e; simp only [DRs] at r ⊢; exact r
      | cons d ds ih =>
        intro es xs e r
        rw [List.mapM_cons] at e
        cases e1 : frz n M' k d with
        | none => rw [e1] at e; simp at e
        | some d1 =>
          cases e2 : ds.mapM (frz n M' k) with
          | none => rw [e1, e2] at e; simp at e
          | some es1 =>
            rw [e1, e2] at e
            simp at e
            subst e
            simp only [DRs] at r
            obtain ⟨u, us, rfl, r1, r2⟩ := r
            exact .cons (frz_all w' k d d1 u e1 r1) (ih es1 us e2 r2)
    simp only [frz] at e
    split at e
    · rename_i hc
      cases e
      exact (DR_cut n).1 d v r hc
    · cases d with
      | tup ds =>
        simp only [Option.map_eq_some_iff] at e
        obtain ⟨es, e, rfl⟩ := e
        obtain ⟨a, xs, rfl, h1, h2⟩ := r.tup
        exact dr_tup h1 (all ds es xs e h2)
      | ref m =>
        simp only at e
        obtain ⟨a, rfl, h1⟩ := r.ref
        split at e
        · rename_i hm
          cases e
          exact dr_ref (by show (W'.ids.take n)[m]? = some a; rw [List.getElem?_take_of_lt hm]; exact h1)
        · rename_i hm
          split at e
          · rename_i ds hd
            simp only [Option.map_eq_some_iff] at e
            obtain ⟨es, e, rfl⟩ := e
            obtain ⟨xs, h3, h4⟩ := w'.at_ m a _ h1 hd
            simp only [DR]
            refine ⟨a, xs, rfl, h3, fun q => ?_, w'.dj a (List.mem_of_getElem? h1), all ds es xs e h4⟩
            obtain ⟨j, hj⟩ := List.mem_iff_getElem?.mp q
            have hj' : (W'.ids.take n)[j]? = some a := hj
            have hjn : j < n := by
              have := (List.getElem?_eq_some_iff.mp hj').1
              rw [List.length_take] at this
              omega
            rw [List.getElem?_take_of_lt hjn] at hj'
            have := (List.getElem?_inj (List.getElem?_eq_some_iff.mp hj').1 w'.nd).mp (hj'.trans h1.symm)
            omega
          · cases e
      | _ => simp at e
/-- a def's end -/
theorem ret_ok {fz : Bool} {d d' : D} {M2 : Mm} {Q : VK} (w : WR K W M H) (e : retOf fz M d M' = some (d', M2)) (q : Post K W H M2 d' Q) : Post K W H M' d Q := by
  intro W1 H1 v x1 w1 r1
  unfold retOf at e
  split at e
  · cases e; exact q W1 H1 v x1 w1 r1
  · split at e
    · split at e
      · rename_i ok
        simp only [Option.map_eq_some_iff] at e
        obtain ⟨d2, e1, e2⟩ := e
        cases e2
        obtain ⟨a1, a2⟩ := trunc w w1 x1 ok
        exact q _ _ v a2 a1 (frz_all w1 8 d d' v e1 r1)
      · cases e
    · cases e; exact q W1 H1 v x1 w1 r1
theorem re_start {ds : List D} {vs : List V} {N : List Str} (r : DRs K W H ds vs) : RE K W H (ds.map some ++ List.replicate (N.length - ds.length) none) (L2.start N vs) := by
  have hl := r.length
  unfold L2.start
  refine ⟨by simp [hl], fun i d e => ?_⟩
  by_cases hi : i < ds.length
  · rw [List.getElem?_append_left (by simpa using hi), List.getElem?_map] at e
    cases q : ds[i]? with
    | none => rw [q] at e; cases e
    | some d1 =>
      rw [q] at e
      simp only [Option.map_some, Option.some.injEq] at e
      subst e
      obtain ⟨v, h1, h2⟩ := r.get q
      refine ⟨v, ?_, h2⟩
      rw [List.getElem?_append_left (by simp; omega), List.getElem?_map, h1]
      rfl
  · rw [List.getElem?_append_right (by simpa using hi), List.getElem?_replicate] at e
    split at e <;> cases e
end

/-- what is known of a def of the text -/
structure DefOk (T : Tab) (K : PySem.W.Frag) (mg : Str → Option Value) (f : Nat) (df : Df) : Prop where
  ex : ∃ (x : Str) (ps N : List Str) (st : Stmt) (fa : Addr) (fd : FuncData), T.fn[f]? = some x ∧ T.ps[f]? = some ps ∧ df.np = ps.length ∧ df.ns = N.length ∧ Fun K x x st fa fd ∧ mg x = some (.ref fa) ∧ Binds K fd ps [] ∧ (∀ n ks perm, (f, n, ks, perm) ∈ T.kw → KBn K fd ps n ks (permG perm) (permV perm)) ∧
    FnScope N ps (defScope st) ∧ chkSs T N df.body (defScope st) (defBody st) = true ∧ ∀ (s : Shared) (us : List Value), us.length = ps.length → BindsTo s fd ⟨us, []⟩ (ps.zip us)
structure AllOk (T : Tab) (P : Program) (w : World) (K : PySem.W.Frag) (mg : Str → Option Value) (defs : List Df) : Prop where
  def_ : ∀ (f : Nat) (df : Df), defs[f]? = some df → DefOk T K mg f df
  len : T.fn.length ≤ defs.length
  gos : ∀ (j : Nat) (x : Str) (d : D), T.go[j]? = some (x, d) → ∃ u v, mg x = some u ∧ RelV v u ∧ ∀ W H, DR ⟨K, P, w⟩ W H d v
  bls : ∀ x, x ∈ T.bl → mg x = none
  gcd : T.gcd = "gcd" → mg T.gcd = some (.builtin "math.gcd")
section
variable {T : Tab} {P : Program} {w : World} {K : PySem.W.Frag} {mg : Str → Option Value} {base : Heap} {defs : List Df}
theorem callN_np (A : AllOk T P w K mg defs) {k : Nat} {f : Nat} {ds : List D} {M : Mm} {r : D × Mm} (e : callN defs k f ds M = some r) : ∃ ps, T.ps[f]? = some ps ∧ ds.length = ps.length := by
  cases k with
  | zero => simp [callN] at e
  | succ k =>
    simp only [callN] at e
    split at e
    · rename_i df hd
      split at e
      · rename_i hl
        obtain ⟨x, ps, N, st, fa, fd, h1, h2, h3, _⟩ := (A.def_ f df hd).ex
        exact ⟨ps, h2, by rw [hl.1, h3]⟩
      · cases e
    · cases e
theorem gf_all (A : AllOk T P w K mg defs) : ∀ k, Gf T (callN defs k) P w K mg base k := by
  intro k
  induction k with
  | zero =>
    refine ⟨fun f ds M r e => callN_np A e, fun f x hx => ?_, A.gos, A.bls, A.gcd⟩
    have hf : f < defs.length := Nat.lt_of_lt_of_le (List.getElem?_eq_some_iff.mp hx).1 A.len
    obtain ⟨y, ps, N, st, fa, fd, h1, h2, h3, h4, F, hm, hb, hkw, S, hc, hbd⟩ := (A.def_ f _ (List.getElem?_eq_getElem hf)).ex
    rw [hx] at h1; cases h1
    refine ⟨ps, fa, fd, h2, ⟨fun vs H Q E q => q.1, fun _ _ _ _ _ _ _ _ _ _ _ _ _ q => ?_⟩, hm, F.kp, hb, hkw⟩
    obtain ⟨_, W, M, ds, d, M', _, _, e, _⟩ := q
    simp [callN] at e
  | succ k ih =>
    refine ⟨fun f ds M r e => callN_np A e, fun f x hx => ?_, A.gos, A.bls, A.gcd⟩
    have hf : f < defs.length := Nat.lt_of_lt_of_le (List.getElem?_eq_some_iff.mp hx).1 A.len
    obtain ⟨y, ps, N, st, fa, fd, h1, h2, h3, h4, F, hm, hb, hkw, S, hc, hbd⟩ := (A.def_ f _ (List.getElem?_eq_getElem hf)).ex
    rw [hx] at h1; cases h1
    refine ⟨ps, fa, fd, h2, ?_, hm, F.kp, hb, hkw⟩
    refine F.ok S (fun vs H Q E q => q.1) fun cdv AA outer s H vs Q E hr q => ?_
    obtain ⟨hlen, W, M, ds, d, M', wr, rd, e, q⟩ := q
    refine ⟨_, (sndS T (callN defs k) defs[f].body).pss (X := _) ⟨⟨ih, rfl, S.nd, rfl, rfl, hr, fun _ _ => rfl, fun _ h => h, fun _ h => h, rfl⟩, S.kind⟩ hc, ?_⟩
    simp only [callN, List.getElem?_eq_getElem hf] at e
    split at e
    · rename_i hl
      have re := re_start (N := N) rd
      have he : N.length - ds.length = defs[f].ns - defs[f].np := by rw [h4, hl.1]
      rw [he] at re
      split at e
      · rename_i d1 env1 M1 e1
        exact ⟨_, W, M, .rt d1, env1, M1, re, wr, e1, ret_ok wr e q⟩
      · rename_i env1 M1 e1
        refine ⟨_, W, M, .nx, env1, M1, re, wr, e1, fun W1 H1 σ1 x1 w1 _ => ret_ok wr e q W1 H1 _ x1 w1 dr_non⟩
      · cases e
    · cases e
/-- one def, at every heap -/
theorem fn_all (A : AllOk T P w K mg defs) {f : Nat} {x : Str} (hx : T.fn[f]? = some x) (k : Nat) : ∃ (ps : List Str) (fa : Addr) (fd : FuncData), T.ps[f]? = some ps ∧ mg x = some (.ref fa) ∧ (∀ (s : Shared) (us : List Value), us.length = ps.length → BindsTo s fd ⟨us, []⟩ (ps.zip us)) ∧
    ∀ base : Heap, FnOk P w K mg base CX0 (k + 1) fa fd ps (spD ⟨K, P, w⟩ (callN defs (k + 1)) f ps.length) := by
  have hf : f < defs.length := Nat.lt_of_lt_of_le (List.getElem?_eq_some_iff.mp hx).1 A.len
  obtain ⟨y, ps, N, st, fa, fd, h1, h2, h3, h4, F, hm, hb, hkw, S, hc, hbd⟩ := (A.def_ f _ (List.getElem?_eq_getElem hf)).ex
  rw [hx] at h1; cases h1
  refine ⟨ps, fa, fd, h2, hm, hbd, fun base => ?_⟩
  have ih := gf_all (base := base) A k
  refine F.ok S (fun vs H Q E q => q.1) fun cdv AA outer s H vs Q E hr q => ?_
  obtain ⟨hlen, W, M, ds, d, M', wr, rd, e, q⟩ := q
  refine ⟨_, (sndS T (callN defs k) defs[f].body).pss (X := _) ⟨⟨ih, rfl, S.nd, rfl, rfl, hr, fun _ _ => rfl, fun _ h => h, fun _ h => h, rfl⟩, S.kind⟩ hc, ?_⟩
  simp only [callN, List.getElem?_eq_getElem hf] at e
  split at e
  · rename_i hl
    have re := re_start (N := N) rd
    have he : N.length - ds.length = defs[f].ns - defs[f].np := by rw [h4, hl.1]
    rw [he] at re
    split at e
    · rename_i d1 env1 M1 e1
      exact ⟨_, W, M, .rt d1, env1, M1, re, wr, e1, ret_ok wr e q⟩
    · rename_i env1 M1 e1
      refine ⟨_, W, M, .nx, env1, M1, re, wr, e1, fun W1 H1 σ1 x1 w1 _ => ret_ok wr e q W1 H1 _ x1 w1 dr_non⟩
    · cases e
  · cases e
end
end DL

set_option maxRecDepth 100000
namespace DL
open PySem PySem.Spec PyProof.Rows L2

theorem fun_of {K : PySem.W.Frag} {x : Str} {st : Stmt} {f : Addr} {fd : FuncData} (F : FunD K x x (defArgs st) (defBody st) (defScope st) [] [] f fd) : Fun K x x st f fd := by
  obtain ⟨oc, od, dV, kV, doc, pm, an, cdv, ct, osl, rfl, lk, hcd, hD, hK⟩ := F.ex
  rcases hD with ⟨_, rfl⟩ | ⟨e, _⟩
  · exact ⟨⟨oc, od, kV, doc, pm, an, cdv, ct, osl, rfl, lk, hcd⟩, F.kp⟩
  · exact absurd rfl e
theorem fun_kbn {K : PySem.W.Frag} {x qual : Str} {st : Stmt} {f : Addr} {fd : FuncData} {ps : List Str} (F : Fun K x qual st f fd) (n : Nat) (ks : List Str) (perm : List Nat)
    (h : ∀ (kV doc pm : Value) (an : Option Addr) (cdv ct : Value) (us ws : List Value), us.length = n → ws.length = ks.length → bindArgs (PySem.W.fnOf x qual (defArgs st) (defBody st) (defScope st) .none kV doc pm an cdv ct) ⟨us, ks.zip ws⟩ = pure (ps.zip (permG perm us ws))) :
    KBn K fd ps n ks (permG perm) (permV perm) := by
  obtain ⟨oc, od, kV, doc, pm, an, cdv, ct, osl, rfl, lk, hcd⟩ := F.ex
  exact ⟨fun s us ws _ l1 l2 => .of_eq (h kV doc pm an cdv ct us ws l1 l2), fun r q => perm_rel perm r q⟩
/-- the table of keyword calls at f -/
def kwAt (T : Tab) (f : Nat) : List (Nat × List Str × List Nat) := (T.kw.filter fun q => q.1 == f).map (·.2)
theorem kwAt_mem {T : Tab} {f n : Nat} {ks : List Str} {perm : List Nat} (h : (f, n, ks, perm) ∈ T.kw) : (n, ks, perm) ∈ kwAt T f :=
  List.mem_map.mpr ⟨_, List.mem_filter.mpr ⟨h, by simp⟩, rfl⟩
theorem def_mk {T : Tab} {K : PySem.W.Frag} {mg : Str → Option Value} {f : Nat} {df : Df} {x : Str} {ps N : List Str} {st : Stmt} {fa : Addr} {kw : List (Nat × List Str × List Nat)} (F : ∃ fd, FunD K x x (defArgs st) (defBody st) (defScope st) [] [] fa fd) (hm : mg x = some (.ref fa))
    (S : FnScope N ps (defScope st)) (hc : chkSs T N df.body (defScope st) (defBody st) = true)
    (hb : ∀ (kV doc pm : Value) (an : Option Addr) (cdv ct : Value) (us : List Value), us.length = ps.length → bindArgs (PySem.W.fnOf x x (defArgs st) (defBody st) (defScope st) .none kV doc pm an cdv ct) ⟨us, []⟩ = pure (ps.zip us))
    (hq : kwAt T f = kw) (hk : ∀ fd, Fun K x x st fa fd → ∀ q ∈ kw, KBn K fd ps q.1 q.2.1 (permG q.2.2) (permV q.2.2))
    (h1 : T.fn[f]? = some x := by rfl) (h2 : T.ps[f]? = some ps := by rfl) (h3 : df.np = ps.length := by rfl) (h4 : df.ns = N.length := by rfl) : DefOk T K mg f df := by
  obtain ⟨fd, F⟩ := F
  have F' := fun_of F
  refine ⟨x, ps, N, st, fa, fd, h1, h2, h3, h4, F', hm, F'.binds hb, fun n ks perm m => hk fd F' (n, ks, perm) (by rw [← hq]; exact kwAt_mem m), S, hc, fun s us hl => ?_⟩
  obtain ⟨oc, od, kV, doc, pm, an, cdv, ct, osl, rfl, lk, hcd⟩ := F'.ex
  exact .of_eq (hb _ _ _ _ _ _ us hl)
inductive AllI (T : Tab) (K : PySem.W.Frag) (mg : Str → Option Value) : Nat → List Df → Prop
  | nil {i} : AllI T K mg i []
  | cons {i d l} : DefOk T K mg i d → AllI T K mg (i + 1) l → AllI T K mg i (d :: l)
theorem AllI.get {T : Tab} {K : PySem.W.Frag} {mg : Str → Option Value} {i : Nat} {l : List Df} (a : AllI T K mg i l) : ∀ {j : Nat} {d : Df}, l[j]? = some d → DefOk T K mg (i + j) d := by
  induction a with
  | nil => intro j d e; simp at e
  | @cons i d l h t ih =>
    intro j d' e
    cases j with
    | zero => simp at e; subst e; exact h
    | succ j =>
      have := ih (j := j) (d := d') (by simpa using e)
      rw [show i + (j + 1) = i + 1 + j by omega]
      exact this
/-- a constant that the text's top binds -/
def conK (K : PySem.W.Frag) (x : Str) : D → Bool
  | .int i => (match PySem.W.nsIn K mainGlobals x with | some (some (.int j _)) => decide (j = i) | _ => false)
  | .str i => (match PySem.W.nsIn K mainGlobals x with | some (some (.str j _)) => decide (j = i) | _ => false)
  | .tup ds => (match PySem.W.nsIn K mainGlobals x with
    | some (some (.ref a)) => (match K.lookup a with
      | some o => (match o.cls with | .type t => decide (t = "tuple") | _ => false) && (match o.data with | .seq its _ => decide (its.size ≤ sizeLine) && consK its.toList ds | _ => false)
      | none => false)
    | _ => false)
  | _ => false
where consK : List Value → List D → Bool
  | [], [] => true
  | .int j _ :: vs, .int i :: ds => decide (j = i) && consK vs ds
  | .str j _ :: vs, .str i :: ds => decide (j = i) && consK vs ds
  | .none :: vs, .non :: ds => consK vs ds
  | .bool j :: vs, .bl i :: ds => decide (j = i) && consK vs ds
  | _, _ => false
theorem consK_ok {K : Kw} {W : Wd} {H : Hp} : ∀ {vs : List Value} {ds : List D}, conK.consK vs ds = true → ∃ xs, Vals xs vs ∧ ∀ W H, DRs K W H ds xs
  | [], [], _ => ⟨[], .nil, fun _ _ => .nil⟩
  | [], _ :: _, h => by simp [conK.consK] at h
  | v :: vs, ds, h => by
    cases v <;> cases ds <;> (try (simp [conK.consK] at h; done))
    all_goals (rename_i d ds; cases d <;> (try (simp [conK.consK] at h; done)))
    · obtain ⟨xs, a, b⟩ := consK_ok (W := W) (H := H) (show conK.consK vs ds = true by simpa [conK.consK] using h)
      exact ⟨.non :: xs, .cons rfl a, fun W H => .cons dr_non (b W H)⟩
    · simp only [conK.consK, Bool.and_eq_true, decide_eq_true_eq] at h
      obtain ⟨xs, a, b⟩ := consK_ok (W := W) (H := H) h.2
      rename_i i _
      exact ⟨.bl _ :: xs, .cons (by rw [h.1]; rfl) a, fun W H => .cons (dr_bl _) (b W H)⟩
    · simp only [conK.consK, Bool.and_eq_true, decide_eq_true_eq] at h
      obtain ⟨xs, a, b⟩ := consK_ok (W := W) (H := H) h.2
      exact ⟨.int _ :: xs, .cons ⟨_, by rw [h.1]⟩ a, fun W H => .cons (dr_int _) (b W H)⟩
    · simp only [conK.consK, Bool.and_eq_true, decide_eq_true_eq] at h
      obtain ⟨xs, a, b⟩ := consK_ok (W := W) (H := H) h.2
      exact ⟨.str _ :: xs, .cons ⟨_, by rw [h.1]⟩ a, fun W H => .cons (dr_str _) (b W H)⟩
theorem conK_ok {P : Program} {w : World} {K : PySem.W.Frag} {h : Heap} {mg : Str → Option Value} (X : K.In h) (G : h.Ns mainGlobals mg) {x : Str} {d : D} (c : conK K x d = true) : ∃ u v, mg x = some u ∧ RelV v u ∧ ∀ W H, DR ⟨K, P, w⟩ W H d v := by
  cases d with
  | int i =>
    simp only [conK] at c
    split at c
    · rename_i j t e
      exact ⟨_, .int i, PySem.W.mg_of X G e, ⟨_, by rw [of_decide_eq_true c]⟩, fun W H => dr_int _⟩
    · cases c
  | str i =>
    simp only [conK] at c
    split at c
    · rename_i j t e
      exact ⟨_, .str i, PySem.W.mg_of X G e, ⟨_, by rw [of_decide_eq_true c]⟩, fun W H => dr_str _⟩
    · cases c
  | tup ds =>
    simp only [conK] at c
    split at c
    · rename_i a e
      split at c
      · rename_i o ho
        rw [Bool.and_eq_true] at c
        obtain ⟨c1, c2⟩ := c
        split at c1
        · rename_i t ht
          split at c2
          · rename_i its n hd
            rw [Bool.and_eq_true, decide_eq_true_eq] at c2
            obtain ⟨xs, r1, r2⟩ := consK_ok (K := ⟨K, P, w⟩) (W := ⟨[], []⟩) (H := fun _ => none) c2.2
            refine ⟨_, .ref a, PySem.W.mg_of X G e, rfl, fun W H => ?_⟩
            simp only [DR]
            exact ⟨a, xs, rfl, .inr ⟨o, its, n, ho, by rw [ht, of_decide_eq_true c1], hd, c2.1, r1⟩, r2 W H⟩
          · cases c2
        · cases c1
      · cases c
    · cases c
  | _ => simp [conK] at c
def gcdK (K : PySem.W.Frag) : Bool := (match PySem.W.nsIn K mainGlobals "gcd" with | some (some (.builtin "math.gcd")) => true | _ => false)
theorem gcdK_ok {K : PySem.W.Frag} {h : Heap} {mg : Str → Option Value} (X : K.In h) (G : h.Ns mainGlobals mg) (c : gcdK K = true) : mg "gcd" = some (.builtin "math.gcd") := by
  unfold gcdK at c
  split at c
  · rename_i e; exact PySem.W.mg_of X G e
  · cases c
/-- the script -/
theorem dr_ints {K : Kw} {W : Wd} {H : Hp} : ∀ ns : List Int, DRs K W H (ns.map D.int) (ns.map V.int)
  | [] => .nil
  | n :: ns => .cons (dr_int n) (dr_ints ns)
theorem sp_start {P : Program} {w : World} {K : PySem.W.Frag} {H : Hp} {a : Addr} {ns : List Int} {E : XK} {call : CallF} {f : Nat} (hO : Only H) (hS : SqL K H a (ns.map V.int)) {M' : Mm} (e : call f [.fz (ns.map D.int)] [] = some (.bl true, M')) :
    spD ⟨K, P, w⟩ call f 1 [.ref a] H (fun v _ => v = .bl true) E := by
  have fz : FzAt ⟨K, P, w⟩ H a (ns.map V.int) := by
    rcases hS with (h | h) | h
    · rcases hO a with e | ⟨o, xs, e⟩
      · rw [h] at e; cases e
      · rw [h] at e; cases e
    · exact .inl h
    · exact .inr h
  refine ⟨rfl, ⟨[], []⟩, [], [.fz (ns.map D.int)], .bl true, M', ⟨rfl, List.nodup_nil, (fun _ m => nomatch m), (fun n a o e => by simp at e), (fun _ m => nomatch m)⟩, .cons ?_ .nil, e, fun W' H' v _ _ r => r.bl⟩
  simp only [DR]
  exact ⟨a, _, rfl, fz, dr_ints ns⟩
end DL

set_option maxRecDepth 100000
namespace DL
open PySem

/-! ### the machine step by step (every continuation a name) -/
section
variable {call : CallF} {env : En} {M : Mm}
def lk (env : En) (i : Nat) (M : Mm) : Option (D × Mm) := match env[i]? with | some (some d) => some (d, M) | _ => none
@[simp] theorem lk_zero {d : D} : lk (some d :: env) 0 M = some (d, M) := rfl
@[simp] theorem lk_succ {x : Option D} {i : Nat} : lk (x :: env) (i + 1) M = lk env i M := rfl
@[simp] theorem ev_var {i : Nat} : evE call (.var i) env M = lk env i M := rfl
@[simp] theorem ev_con {d : D} : evE call (.con d) env M = some (d, M) := rfl
@[simp] theorem ev_glo {j : Nat} {d : D} : evE call (.glo j d) env M = some (d, M) := rfl
def kTup (p : List D × Mm) : Option (D × Mm) := if p.1.length ≤ lim then some (.tup p.1, p.2) else none
def kLis (m : Bool) (p : List D × Mm) : Option (D × Mm) := newL m p.1 p.2
@[simp] theorem ev_tup {es : E} : evE call (.tup es) env M = (evEs call es env M).bind kTup := rfl
@[simp] theorem ev_lis {m : Bool} {es : E} : evE call (.lis m es) env M = (evEs call es env M).bind (kLis m) := rfl
@[simp] theorem ev_dict0 : evE call (.dict0 true) env M = some (.ref M.length, M ++ [.dic []]) := rfl
def kOp2 (o : Op) (m : Bool) (x : D) (q : D × Mm) : Option (D × Mm) := semO m q.2 o x q.1
def kOp1 (call : CallF) (o : Op) (m : Bool) (b : E) (env : En) (p : D × Mm) : Option (D × Mm) := (evE call b env p.2).bind (kOp2 o m p.1)
@[simp] theorem ev_op {o : Op} {m : Bool} {a b : E} : evE call (.op o m a b) env M = (evE call a env M).bind (kOp1 call o m b env) := rfl
@[simp] theorem kOp1_ap {o : Op} {m : Bool} {b : E} {d : D} : kOp1 call o m b env (d, M) = (evE call b env M).bind (kOp2 o m d) := rfl
@[simp] theorem kOp2_ap {o : Op} {m : Bool} {x d : D} : kOp2 o m x (d, M) = semO m M o x d := rfl
def kCmp2 (o : Cm) (x : D) (q : D × Mm) : Option (Bool × Mm) := (semC q.2 o x q.1).map fun r => (r, q.2)
def kCmp1 (call : CallF) (o : Cm) (b : E) (env : En) (p : D × Mm) : Option (Bool × Mm) := (evE call b env p.2).bind (kCmp2 o p.1)
def kBl (p : Bool × Mm) : Option (D × Mm) := some (.bl p.1, p.2)
@[simp] theorem kBl_ap {b : Bool} : kBl (b, M) = some (.bl b, M) := rfl
theorem cmp_evT {o : Cm} {a b : E} : evT call (.cmp o a b) env M = (evE call a env M).bind (kCmp1 call o b env) := rfl
@[simp] theorem ev_cmp {o : Cm} {a b : E} : evE call (.cmp o a b) env M = (evT call (.cmp o a b) env M).bind kBl := by
  simp only [evE, evT, Option.bind_assoc]
  congr; funext p; congr; funext q
  cases semC q.2 o p.1 q.1 <;> rfl
@[simp] theorem et_cmp {o : Cm} {a b : E} : evT call (.cmp o a b) env M = (evE call a env M).bind (kCmp1 call o b env) := rfl
@[simp] theorem kCmp1_ap {o : Cm} {b : E} {d : D} : kCmp1 call o b env (d, M) = (evE call b env M).bind (kCmp2 o d) := rfl
@[simp] theorem kCmp2_ap {o : Cm} {x d : D} : kCmp2 o x (d, M) = (semC M o x d).map fun r => (r, M) := rfl
def kC23 (o' : Cm) (y : D) (q : D × Mm) : Option (Bool × Mm) := (semC q.2 o' y q.1).map fun r => (r, q.2)
def kC22 (call : CallF) (o' : Cm) (c : E) (env : En) (y : D) (M : Mm) (r : Bool) : Option (Bool × Mm) := if r then (evE call c env M).bind (kC23 o' y) else some (false, M)
def kC2 (call : CallF) (o o' : Cm) (c : E) (env : En) (x : D) (q : D × Mm) : Option (Bool × Mm) := (semC q.2 o x q.1).bind (kC22 call o' c env q.1 q.2)
def kC1 (call : CallF) (o o' : Cm) (b c : E) (env : En) (p : D × Mm) : Option (Bool × Mm) := (evE call b env p.2).bind (kC2 call o o' c env p.1)
@[simp] theorem et_cmp2 {o o' : Cm} {a b c : E} : evT call (.cmp2 o o' a b c) env M = (evE call a env M).bind (kC1 call o o' b c env) := rfl
@[simp] theorem ev_cmp2 {o o' : Cm} {a b c : E} : evE call (.cmp2 o o' a b c) env M = (evT call (.cmp2 o o' a b c) env M).bind kBl := by
  simp only [evE, evT, Option.bind_assoc]
  congr; funext p; congr; funext q
  cases semC q.2 o p.1 q.1 with
  | none => rfl
  | some r =>
    cases r
    · rfl
    · simp only [Option.bind_some, if_true, Option.bind_assoc]
      congr; funext u
      cases semC u.2 o' q.1 u.1 <;> rfl
@[simp] theorem kC1_ap {o o' : Cm} {b c : E} {d : D} : kC1 call o o' b c env (d, M) = (evE call b env M).bind (kC2 call o o' c env d) := rfl
@[simp] theorem kC2_ap {o o' : Cm} {c : E} {x d : D} : kC2 call o o' c env x (d, M) = (semC M o x d).bind (kC22 call o' c env d M) := rfl
@[simp] theorem kC22_t {o' : Cm} {c : E} {y : D} : kC22 call o' c env y M true = (evE call c env M).bind (kC23 o' y) := rfl
@[simp] theorem kC22_f {o' : Cm} {c : E} {y : D} : kC22 call o' c env y M false = some (false, M) := rfl
@[simp] theorem kC23_ap {o' : Cm} {y d : D} : kC23 o' y (d, M) = (semC M o' y d).map fun r => (r, M) := rfl
def kNeg (p : D × Mm) : Option (D × Mm) := (intOf p.1).map fun i => (.int (-i), p.2)
@[simp] theorem ev_neg {a : E} : evE call (.neg a) env M = (evE call a env M).bind kNeg := rfl
@[simp] theorem kNeg_ap {i : Int} : kNeg (.int i, M) = some (.int (-i), M) := rfl
def kAnd (call : CallF) (r : E) (env : En) (p : D × Mm) : Option (D × Mm) := match p.1 with | .bl true => evE call r env p.2 | .bl false => some (.bl false, p.2) | _ => none
def kOr (call : CallF) (r : E) (env : En) (p : D × Mm) : Option (D × Mm) := match p.1 with | .bl false => evE call r env p.2 | .bl true => some (.bl true, p.2) | _ => none
@[simp] theorem ev_and {a r : E} : evE call (.and a r) env M = (evE call a env M).bind (kAnd call r env) := rfl
@[simp] theorem ev_or {a r : E} : evE call (.or a r) env M = (evE call a env M).bind (kOr call r env) := rfl
@[simp] theorem kAnd_t {r : E} : kAnd call r env (.bl true, M) = evE call r env M := rfl
@[simp] theorem kAnd_f {r : E} : kAnd call r env (.bl false, M) = some (.bl false, M) := rfl
@[simp] theorem kOr_t {r : E} : kOr call r env (.bl true, M) = some (.bl true, M) := rfl
@[simp] theorem kOr_f {r : E} : kOr call r env (.bl false, M) = evE call r env M := rfl
@[simp] theorem ev_one {a : E} : evE call (.one a) env M = evE call a env M := rfl
def kNot (p : D × Mm) : Option (D × Mm) := match p.1 with | .bl b => some (.bl (!b), p.2) | _ => none
@[simp] theorem ev_not {a : E} : evE call (.not a) env M = (evE call a env M).bind kNot := rfl
@[simp] theorem kNot_ap {b : Bool} : kNot (.bl b, M) = some (.bl (!b), M) := rfl
def kIte (call : CallF) (a b : E) (env : En) (p : Bool × Mm) : Option (D × Mm) := if p.1 then evE call a env p.2 else evE call b env p.2
@[simp] theorem ev_ite {c a b : E} : evE call (.ite c a b) env M = (evT call c env M).bind (kIte call a b env) := rfl
@[simp] theorem kIte_t {a b : E} : kIte call a b env (true, M) = evE call a env M := rfl
@[simp] theorem kIte_f {a b : E} : kIte call a b env (false, M) = evE call b env M := rfl
def kIx2 (x : D) (q : D × Mm) : Option (D × Mm) := (semIx q.2 x q.1).map fun d => (d, q.2)
def kIx1 (call : CallF) (i : E) (env : En) (p : D × Mm) : Option (D × Mm) := (evE call i env p.2).bind (kIx2 p.1)
@[simp] theorem ev_idx {a i : E} : evE call (.idx a i) env M = (evE call a env M).bind (kIx1 call i env) := rfl
@[simp] theorem kIx1_ap {i : E} {d : D} : kIx1 call i env (d, M) = (evE call i env M).bind (kIx2 d) := rfl
@[simp] theorem kIx2_ap {x d : D} : kIx2 x (d, M) = (semIx M x d).map fun d => (d, M) := rfl
def kSl3 (m : Bool) (x : D) (l : List D) (u : List D × Mm) : Option (D × Mm) := semSl m u.2 x l u.1
def kSl2 (call : CallF) (m : Bool) (hi : E) (env : En) (x : D) (q : List D × Mm) : Option (D × Mm) := (evEs call hi env q.2).bind (kSl3 m x q.1)
def kSl1 (call : CallF) (m : Bool) (lo hi : E) (env : En) (p : D × Mm) : Option (D × Mm) := (evEs call lo env p.2).bind (kSl2 call m hi env p.1)
@[simp] theorem ev_sli {m : Bool} {a lo hi : E} : evE call (.sli m a lo hi) env M = (evE call a env M).bind (kSl1 call m lo hi env) := rfl
@[simp] theorem kSl1_ap {m : Bool} {lo hi : E} {d : D} : kSl1 call m lo hi env (d, M) = (evEs call lo env M).bind (kSl2 call m hi env d) := rfl
@[simp] theorem kSl2_ap {m : Bool} {hi : E} {d : D} {l : List D} : kSl2 call m hi env d (l, M) = (evEs call hi env M).bind (kSl3 m d l) := rfl
@[simp] theorem kSl3_ap {m : Bool} {d : D} {l h : List D} : kSl3 m d l (h, M) = semSl m M d l h := rfl
def kCall (call : CallF) (f : Nat) (p : List D × Mm) : Option (D × Mm) := call f p.1 p.2
@[simp] theorem ev_call {f : Nat} {es : E} : evE call (.call f es) env M = (evEs call es env M).bind (kCall call f) := rfl
@[simp] theorem kCall_ap {f : Nat} {ds : List D} : kCall call f (ds, M) = call f ds M := rfl
def kCk2 (call : CallF) (f : Nat) (perm : List Nat) (ds : List D) (q : List D × Mm) : Option (D × Mm) := call f (perm.map fun j => (ds ++ q.1).getD j .non) q.2
def kCk1 (call : CallF) (f : Nat) (perm : List Nat) (ks : E) (env : En) (p : List D × Mm) : Option (D × Mm) := (evEs call ks env p.2).bind (kCk2 call f perm p.1)
@[simp] theorem ev_callk {f : Nat} {perm : List Nat} {es ks : E} : evE call (.callk f perm es ks) env M = (evEs call es env M).bind (kCk1 call f perm ks env) := rfl
@[simp] theorem kCk1_ap {f : Nat} {perm : List Nat} {ks : E} {ds : List D} : kCk1 call f perm ks env (ds, M) = (evEs call ks env M).bind (kCk2 call f perm ds) := rfl
@[simp] theorem kCk2_ap {f : Nat} {perm : List Nat} {ds es : List D} : kCk2 call f perm ds (es, M) = call f (perm.map fun j => (ds ++ es).getD j .non) M := rfl
def kBlt (b : Blt) (m : Bool) (p : List D × Mm) : Option (D × Mm) := semB b m p.1 p.2
@[simp] theorem ev_blt {b : Blt} {m : Bool} {es : E} : evE call (.blt b m es) env M = (evEs call es env M).bind (kBlt b m) := rfl
@[simp] theorem kBlt_ap {b : Blt} {m : Bool} {ds : List D} : kBlt b m (ds, M) = semB b m ds M := rfl
def kSset (m : Bool) (p : D × Mm) : Option (D × Mm) := semB .sortset m [p.1] p.2
@[simp] theorem ev_sset {m : Bool} {a : E} : evE call (.sset m a) env M = (evE call a env M).bind (kSset m) := rfl
@[simp] theorem kSset_ap {m : Bool} {d : D} : kSset m (d, M) = semB .sortset m [d] M := rfl
def kIsi (ts : List Ty) (p : D × Mm) : Option (Bool × Mm) := (semIsi p.2 p.1 ts).map fun r => (r, p.2)
@[simp] theorem et_isi {a : E} {ts : List Ty} : evT call (.isi a ts) env M = (evE call a env M).bind (kIsi ts) := rfl
@[simp] theorem ev_isi {a : E} {ts : List Ty} : evE call (.isi a ts) env M = (evT call (.isi a ts) env M).bind kBl := by
  simp only [evE, evT, Option.bind_assoc]
  congr; funext p
  cases semIsi p.2 p.1 ts <;> rfl
@[simp] theorem kIsi_ap {d : D} {ts : List Ty} : kIsi ts (d, M) = (semIsi M d ts).map fun r => (r, M) := rfl
def kMt2 (b : Mth) (x : D) (q : List D × Mm) : Option (D × Mm) := semM b q.2 x q.1
def kMt1 (call : CallF) (b : Mth) (es : E) (env : En) (p : D × Mm) : Option (D × Mm) := if mthOk b p.2 p.1 then (evEs call es env p.2).bind (kMt2 b p.1) else none
@[simp] theorem ev_mth {b : Mth} {m : Bool} {a es : E} : evE call (.mth b m a es) env M = (evE call a env M).bind (kMt1 call b es env) := rfl
@[simp] theorem kMt1_ap {b : Mth} {es : E} {d : D} : kMt1 call b es env (d, M) = if mthOk b M d then (evEs call es env M).bind (kMt2 b d) else none := rfl
@[simp] theorem kMt2_ap {b : Mth} {d : D} {ds : List D} : kMt2 b d (ds, M) = semM b M d ds := rfl
def kNew (m : Bool) (q : List D × Mm) : Option (D × Mm) := newL m q.1 q.2
def kCo (call : CallF) (m : Bool) (t : Tg) (own : List Nat) (c e : E) (env : En) (p : ItD × Mm) : Option (D × Mm) := (compGo (evT call c) (evE call e) t p.1.src (wipeD env own) p.1.items [] p.2).bind (kNew m)
@[simp] theorem ev_comp {m : Bool} {t : Tg} {own : List Nat} {it c e : E} : evE call (.comp m t own it c e) env M = (evIt call it env M).bind (kCo call m t own c e env) := rfl
@[simp] theorem kCo_ap {m : Bool} {t : Tg} {own : List Nat} {c e : E} {src : List (Nat × List D)} {items : List D} : kCo call m t own c e env (⟨src, items⟩, M) = (compGo (evT call c) (evE call e) t src (wipeD env own) items [] M).bind (kNew m) := rfl
@[simp] theorem kNew_ap {m : Bool} {ds : List D} : kNew m (ds, M) = newL m ds M := rfl
def innerC (call : CallF) (t1 : Tg) (own1 : List Nat) (it1 e : E) (env : En) (acc : List D) (M : Mm) : Option (List D × Mm) := (evIt call it1 env M).bind fun p => compGo (fun _ M => some (true, M)) (evE call e) t1 p.1.src (wipeD env own1) p.1.items acc p.2
def kCo2 (call : CallF) (m : Bool) (t : Tg) (own : List Nat) (t1 : Tg) (own1 : List Nat) (it1 e : E) (env : En) (p : ItD × Mm) : Option (D × Mm) := (comp2Go (innerC call t1 own1 it1 e) t p.1.src (wipeD env own) p.1.items [] p.2).bind (kNew m)
@[simp] theorem ev_comp2 {m : Bool} {t t1 : Tg} {own own1 : List Nat} {it it1 e : E} : evE call (.comp2 m t own it t1 own1 it1 e) env M = (evIt call it env M).bind (kCo2 call m t own t1 own1 it1 e env) := rfl
@[simp] theorem kCo2_ap {m : Bool} {t t1 : Tg} {own own1 : List Nat} {it1 e : E} {src : List (Nat × List D)} {items : List D} : kCo2 call m t own t1 own1 it1 e env (⟨src, items⟩, M) = (comp2Go (innerC call t1 own1 it1 e) t src (wipeD env own) items [] M).bind (kNew m) := rfl
/-! lists -/
def kCs2 (d : D) (q : List D × Mm) : Option (List D × Mm) := some (d :: q.1, q.2)
def kCs1 (call : CallF) (es : E) (env : En) (p : D × Mm) : Option (List D × Mm) := (evEs call es env p.2).bind (kCs2 p.1)
@[simp] theorem es_nil : evEs call .nil env M = some ([], M) := rfl
@[simp] theorem es_cons {e es : E} : evEs call (.cons e es) env M = (evE call e env M).bind (kCs1 call es env) := rfl
@[simp] theorem kCs1_ap {es : E} {d : D} : kCs1 call es env (d, M) = (evEs call es env M).bind (kCs2 d) := rfl
@[simp] theorem kCs2_ap {d : D} {ds : List D} : kCs2 d (ds, M) = some (d :: ds, M) := rfl
def kSt2 (xs : List D) (q : List D × Mm) : Option (List D × Mm) := some (xs ++ q.1, q.2)
def kSt1 (call : CallF) (es : E) (env : En) (p : D × Mm) : Option (List D × Mm) := (seqOf p.2 p.1).bind fun xs => (evEs call es env p.2).bind (kSt2 xs)
@[simp] theorem es_star {e es : E} : evEs call (.star e es) env M = (evE call e env M).bind (kSt1 call es env) := rfl
@[simp] theorem kSt1_ap {es : E} {d : D} : kSt1 call es env (d, M) = (seqOf M d).bind fun xs => (evEs call es env M).bind (kSt2 xs) := rfl
@[simp] theorem kSt2_ap {xs ds : List D} : kSt2 xs (ds, M) = some (xs ++ ds, M) := rfl
/-! tests -/
@[simp] theorem et_yes : evT call .yes env M = some (true, M) := rfl
def kNotT (p : Bool × Mm) : Option (Bool × Mm) := some (!p.1, p.2)
@[simp] theorem et_not {a : E} : evT call (.not a) env M = (evT call a env M).bind kNotT := rfl
@[simp] theorem kNotT_ap {b : Bool} : kNotT (b, M) = some (!b, M) := rfl
def kAndT (call : CallF) (r : E) (env : En) (p : Bool × Mm) : Option (Bool × Mm) := if p.1 then evT call r env p.2 else some (false, p.2)
def kOrT (call : CallF) (r : E) (env : En) (p : Bool × Mm) : Option (Bool × Mm) := if p.1 then some (true, p.2) else evT call r env p.2
@[simp] theorem et_and {a r : E} : evT call (.and a r) env M = (evT call a env M).bind (kAndT call r env) := rfl
@[simp] theorem et_or {a r : E} : evT call (.or a r) env M = (evT call a env M).bind (kOrT call r env) := rfl
@[simp] theorem kAndT_t {r : E} : kAndT call r env (true, M) = evT call r env M := rfl
@[simp] theorem kAndT_f {r : E} : kAndT call r env (false, M) = some (false, M) := rfl
@[simp] theorem kOrT_t {r : E} : kOrT call r env (true, M) = some (true, M) := rfl
@[simp] theorem kOrT_f {r : E} : kOrT call r env (false, M) = evT call r env M := rfl
@[simp] theorem et_one {a : E} : evT call (.one a) env M = evT call a env M := rfl
def kTr (p : D × Mm) : Option (Bool × Mm) := (truth p.2 p.1).map fun b => (b, p.2)
@[simp] theorem kTr_ap {d : D} : kTr (d, M) = (truth M d).map fun b => (b, M) := rfl
@[simp] theorem et_var {i : Nat} : evT call (.var i) env M = (evE call (.var i) env M).bind kTr := by
  simp only [evT, evE]
  split <;> rfl
@[simp] theorem et_idx {a i : E} : evT call (.idx a i) env M = (evE call (.idx a i) env M).bind kTr := by
  simp only [evT, evE, Option.bind_assoc]
  congr; funext p; congr; funext q
  cases semIx q.2 p.1 q.1 <;> rfl
@[simp] theorem et_op {o : Op} {m : Bool} {a b : E} : evT call (.op o m a b) env M = (evE call (.op o m a b) env M).bind kTr := by
  simp only [evT, evE, Option.bind_assoc]; rfl
@[simp] theorem et_call {f : Nat} {es : E} : evT call (.call f es) env M = (evE call (.call f es) env M).bind kTr := by
  simp only [evT, evE, Option.bind_assoc]; rfl
@[simp] theorem et_callk {f : Nat} {perm : List Nat} {es ks : E} : evT call (.callk f perm es ks) env M = (evE call (.callk f perm es ks) env M).bind kTr := by
  simp only [evT, evE, Option.bind_assoc]; rfl
@[simp] theorem et_blt {b : Blt} {m : Bool} {es : E} : evT call (.blt b m es) env M = (evE call (.blt b m es) env M).bind kTr := by
  simp only [evT, evE, Option.bind_assoc]; rfl
/-! what is walked -/
def kSeq (p : D × Mm) : Option (ItD × Mm) := (itOf p.2 p.1).map fun i => (i, p.2)
@[simp] theorem ei_seq {a : E} : evIt call (.iseq a) env M = (evE call a env M).bind kSeq := rfl
@[simp] theorem kSeq_ap {d : D} : kSeq (d, M) = (itOf M d).map fun i => (i, M) := rfl
def kR1 (p : D × Mm) : Option (ItD × Mm) := match p.1 with | .int j => if in62 j then some (⟨[], rangeD 0 j.toNat⟩, p.2) else none | _ => none
@[simp] theorem ei_r1 {a : E} : evIt call (.irange1 a) env M = (evE call a env M).bind kR1 := rfl
@[simp] theorem kR1_ap {j : Int} : kR1 (.int j, M) = if in62 j then some (⟨[], rangeD 0 j.toNat⟩, M) else none := rfl
def kR3c (x y : D) (u : D × Mm) : Option (ItD × Mm) := match x, y, u.1 with
  | .int i, .int j, .int k => if in62 i && in62 j && decide (k = -1) then some (⟨[], rangeC i (-1) (i - j).toNat⟩, u.2) else none | _, _, _ => none
def kR3b (call : CallF) (c : E) (env : En) (x : D) (q : D × Mm) : Option (ItD × Mm) := (evE call c env q.2).bind (kR3c x q.1)
def kR3a (call : CallF) (b c : E) (env : En) (p : D × Mm) : Option (ItD × Mm) := (evE call b env p.2).bind (kR3b call c env p.1)
@[simp] theorem ei_r3 {a b c : E} : evIt call (.irange3 a b c) env M = (evE call a env M).bind (kR3a call b c env) := rfl
@[simp] theorem kR3a_ap {b c : E} {d : D} : kR3a call b c env (d, M) = (evE call b env M).bind (kR3b call c env d) := rfl
@[simp] theorem kR3b_ap {c : E} {x d : D} : kR3b call c env x (d, M) = (evE call c env M).bind (kR3c x d) := rfl
@[simp] theorem kR3c_ap {i j k : Int} : kR3c (.int i) (.int j) (.int k, M) = if in62 i && in62 j && decide (k = -1) then some (⟨[], rangeC i (-1) (i - j).toNat⟩, M) else none := rfl
def kEn (p : D × Mm) : Option (ItD × Mm) := (itL p.2 p.1).map fun i => (⟨i.src, enumD 0 i.items⟩, p.2)
@[simp] theorem ei_enum {a : E} : evIt call (.ienum a) env M = (evE call a env M).bind kEn := rfl
@[simp] theorem kEn_ap {d : D} : kEn (d, M) = (itL M d).map fun i => (⟨i.src, enumD 0 i.items⟩, M) := rfl
/-! statements -/
@[simp] theorem ex_nil : exS call .nil env M = some (.nx, env, M) := rfl
def kSq (call : CallF) (r : S) (q : Fl × En × Mm) : Option (Fl × En × Mm) := match q with
  | (.nx, env2, M2) => exS call r env2 M2
  | q => some q
@[simp] theorem ex_seq {s r : S} : exS call (.seq s r) env M = (exS call s env M).bind (kSq call r) := by
  simp only [exS]; rfl
@[simp] theorem kSq_nx {r : S} : kSq call r (.nx, env, M) = exS call r env M := rfl
@[simp] theorem kSq_rt {r : S} {d : D} : kSq call r (.rt d, env, M) = some (.rt d, env, M) := rfl
def kSet (t : Tg) (env : En) (p : D × Mm) : Option (Fl × En × Mm) := (asg t p.1 env).map fun env2 => (.nx, env2, p.2)
@[simp] theorem ex_set {t : Tg} {e : E} : exS call (.set t e) env M = (evE call e env M).bind (kSet t env) := rfl
@[simp] theorem kSet_ap {t : Tg} {d : D} : kSet t env (d, M) = (asg t d env).map fun env2 => (.nx, env2, M) := rfl
def kSetc (i : Nat) (env : En) (p : D × Mm) : Option (Fl × En × Mm) := some (.nx, env.set i (some p.1), p.2)
@[simp] theorem ex_setc {i : Nat} {e : E} : exS call (.setc i e) env M = (evE call e env M).bind (kSetc i env) := rfl
@[simp] theorem kSetc_ap {i : Nat} {d : D} : kSetc i env (d, M) = some (.nx, env.set i (some d), M) := rfl
def kPar (is : List Nat) (env : En) (p : List D × Mm) : Option (Fl × En × Mm) := some (.nx, sets is p.1 env, p.2)
@[simp] theorem ex_par {is : List Nat} {es : E} : exS call (.par is es) env M = (evEs call es env M).bind (kPar is env) := rfl
@[simp] theorem kPar_ap {is : List Nat} {ds : List D} : kPar is env (ds, M) = some (.nx, sets is ds env, M) := rfl
def kPut3 (d o : D) (env : En) (u : D × Mm) : Option (Fl × En × Mm) := (semPut u.2 o u.1 d).map fun M2 => (.nx, env, M2)
def kPut2 (call : CallF) (i : E) (d : D) (env : En) (q : D × Mm) : Option (Fl × En × Mm) := (evE call i env q.2).bind (kPut3 d q.1 env)
def kPut1 (call : CallF) (o i : E) (env : En) (p : D × Mm) : Option (Fl × En × Mm) := (evE call o env p.2).bind (kPut2 call i p.1 env)
@[simp] theorem ex_put {o i e : E} : exS call (.put o i e) env M = (evE call e env M).bind (kPut1 call o i env) := rfl
@[simp] theorem kPut1_ap {o i : E} {d : D} : kPut1 call o i env (d, M) = (evE call o env M).bind (kPut2 call i d env) := rfl
@[simp] theorem kPut2_ap {i : E} {d x : D} : kPut2 call i d env (x, M) = (evE call i env M).bind (kPut3 d x env) := rfl
@[simp] theorem kPut3_ap {d o i : D} : kPut3 d o env (i, M) = (semPut M o i d).map fun M2 => (.nx, env, M2) := rfl
def kExp (env : En) (p : D × Mm) : Option (Fl × En × Mm) := some (.nx, env, p.2)
@[simp] theorem ex_expr {e : E} : exS call (.expr e) env M = (evE call e env M).bind (kExp env) := rfl
@[simp] theorem kExp_ap {d : D} : kExp env (d, M) = some (.nx, env, M) := rfl
def kRet (env : En) (p : D × Mm) : Option (Fl × En × Mm) := some (.rt p.1, env, p.2)
@[simp] theorem ex_ret {e : E} : exS call (.ret e) env M = (evE call e env M).bind (kRet env) := rfl
@[simp] theorem kRet_ap {d : D} : kRet env (d, M) = some (.rt d, env, M) := rfl
def kIf (call : CallF) (a b : S) (env : En) (p : Bool × Mm) : Option (Fl × En × Mm) := if p.1 then exS call a env p.2 else exS call b env p.2
@[simp] theorem ex_ite {c : E} {a b : S} : exS call (.ite c a b) env M = (evT call c env M).bind (kIf call a b env) := rfl
@[simp] theorem kIf_t {a b : S} : kIf call a b env (true, M) = exS call a env M := rfl
@[simp] theorem kIf_f {a b : S} : kIf call a b env (false, M) = exS call b env M := rfl
def kFor (call : CallF) (t : Tg) (b : S) (env : En) (p : ItD × Mm) : Option (Fl × En × Mm) := forGo (exS call b) t p.1.src p.1.items env p.2
@[simp] theorem ex_for {t : Tg} {it : E} {b : S} : exS call (.for_ t it b) env M = (evIt call it env M).bind (kFor call t b env) := rfl
@[simp] theorem kFor_ap {t : Tg} {b : S} {src : List (Nat × List D)} {items : List D} : kFor call t b env (⟨src, items⟩, M) = forGo (exS call b) t src items env M := rfl
@[simp] theorem ex_while {c : E} {b : S} : exS call (.while_ c b) env M = whileGo (evT call c) (exS call b) wfuel env M := rfl
end
@[simp] theorem asg_nm {i : Nat} {d : D} {env : En} : asg (.nm i) d env = some (env.set i (some d)) := rfl
@[simp] theorem asg_nil {env : En} : asg .nil (.tup []) env = some env := rfl
@[simp] theorem asg_cons {t r : Tg} {d : D} {ds : List D} {env : En} : asg (.cons t r) (.tup (d :: ds)) env = (asg t d env).bind fun env => asg r (.tup ds) env := rfl
@[simp] theorem sets_cons {i : Nat} {is : List Nat} {d : D} {ds : List D} {env : En} : sets (i :: is) (d :: ds) env = sets is ds (env.set i (some d)) := rfl
@[simp] theorem sets_nil {ds : List D} {env : En} : sets [] ds env = env := by cases ds <;> rfl

/-! ### values -/
section
variable {M : Mm} {m : Bool} {i j : Int} {d : D} {ds : List D}
@[simp] theorem iff_t : iff' true d M = some (d, M) := rfl
@[simp] theorem so_add : semO m M .add (.int i) (.int j) = some (.int (i + j), M) := rfl
@[simp] theorem so_sub : semO m M .sub (.int i) (.int j) = some (.int (i - j), M) := rfl
@[simp] theorem so_mul : semO m M .mul (.int i) (.int j) = iff' (mulB i j) (.int (i * j)) M := rfl
@[simp] theorem so_fdiv : semO m M .fdiv (.int i) (.int j) = iff' (divB j) (.int (i / j)) M := rfl
@[simp] theorem so_mod : semO m M .mod (.int i) (.int j) = iff' (decide (0 < j)) (.int (i % j)) M := rfl
@[simp] theorem so_pow : semO m M .pow (.int i) (.int j) = iff' (CPowB i j) (.int (i ^ j.toNat)) M := rfl
@[simp] theorem so_shl : semO m M .shl (.int i) (.int j) = iff' (CPowB i j) (.int (i * 2 ^ j.toNat)) M := rfl
@[simp] theorem so_shr : semO m M .shr (.int i) (.int j) = iff' (decide (0 ≤ j)) (.int (i / 2 ^ j.toNat)) M := rfl
@[simp] theorem so_band : semO m M .band (.int i) (.int j) = some (.int (Builtin.bitAnd i j), M) := rfl
@[simp] theorem so_bor : semO m M .bor (.int i) (.int j) = some (.int (Builtin.bitOr i j), M) := rfl
@[simp] theorem sc_lt : semC M .lt (.int i) (.int j) = some (decide (i < j)) := rfl
@[simp] theorem sc_le : semC M .le (.int i) (.int j) = some (decide (i ≤ j)) := rfl
@[simp] theorem sc_gt : semC M .gt (.int i) (.int j) = some (decide (j < i)) := rfl
@[simp] theorem sc_ge : semC M .ge (.int i) (.int j) = some (decide (j ≤ i)) := rfl
theorem eqD_int : eqD M (.int i) (.int j) = some (decide (i = j)) := by
  simp [eqD, toPy, PyData.eqv]
  rfl
@[simp] theorem sc_eqi : semC M .eq (.int i) (.int j) = some (decide (i = j)) := eqD_int
@[simp] theorem sc_nei : semC M .ne (.int i) (.int j) = some (!decide (i = j)) := by simp [semC, eqD_int]
@[simp] theorem ix_tup {k : Int} : semIx M (.tup ds) (.int k) = L2.atI ds k := by
  simp [semIx, dicOf, seqOf, intOf]
@[simp] theorem at_0 {a : D} : L2.atI (a :: ds) 0 = some a := by
  have h : L2.ixN (a :: ds).length 0 = some 0 := by simp [L2.ixN]
  simp only [L2.atI, h]; rfl
@[simp] theorem at_1 {a b : D} : L2.atI (a :: b :: ds) 1 = some b := by
  have h : L2.ixN (a :: b :: ds).length 1 = some 1 := by simp [L2.ixN]; omega
  simp only [L2.atI, h]; rfl
@[simp] theorem sb_abs : semB .abs m [.int i] M = some (.int (if i < 0 then -i else i), M) := rfl
@[simp] theorem sb_int : semB .int m [.int i] M = some (.int i, M) := rfl
@[simp] theorem sb_gcd : semB .gcd m [.int i, .int j] M = some (.int (Nat.gcd i.natAbs j.natAbs), M) := rfl
@[simp] theorem sb_max : semB .max2 m [.int i, .int j] M = some (.int (if j > i then j else i), M) := rfl
@[simp] theorem sb_min : semB .min2 m [.int i, .int j] M = some (.int (if j < i then j else i), M) := rfl
@[simp] theorem tr_bl {b : Bool} : truth M (.bl b) = some b := rfl
@[simp] theorem tr_int : truth M (.int i) = some (i != 0) := rfl
@[simp] theorem kTup_ap : kTup (ds, M) = if ds.length ≤ lim then some (.tup ds, M) else none := rfl
@[simp] theorem kLis_ap : kLis m (ds, M) = newL m ds M := rfl
theorem lim_big {n : Nat} (h : n ≤ 1000) : n ≤ lim := Nat.le_trans h (by decide)
@[simp] theorem lim0 : 0 ≤ lim := Nat.zero_le _
@[simp] theorem lim1 : 1 ≤ lim := by decide
@[simp] theorem lim2 : 2 ≤ lim := by decide
@[simp] theorem lim3 : 3 ≤ lim := by decide
@[simp] theorem lim4 : 4 ≤ lim := by decide
@[simp] theorem new_f (h : ds.length ≤ lim) : newL false ds M = some (.lst ds, M) := by simp [newL, h]
@[simp] theorem new_t (h : ds.length ≤ lim) : newL true ds M = some (.ref M.length, M ++ [.lst ds]) := by simp [newL, h]
end
/-- what a def gives, at every store, from n calls on -/
def Pu (defs : List Df) (n f : Nat) (args : List D) (res : D) : Prop := ∀ k M, n ≤ k → callN defs k f args M = some (res, M)
theorem Pu.at {defs : List Df} {n f : Nat} {args : List D} {res : D} (h : Pu defs n f args res) {k : Nat} (M : Mm) (hk : n ≤ k) : callN defs k f args M = some (res, M) := h k M hk
theorem Pu.mono {defs : List Df} {n m f : Nat} {args : List D} {res : D} (h : Pu defs n f args res) (hm : n ≤ m) : Pu defs m f args res := fun k M hk => h k M (Nat.le_trans hm hk)
theorem Pu.mk {defs : List Df} {n f : Nat} {args : List D} {res : D} {df : Df} (hd : defs[f]? = some df) (hl : args.length = df.np ∧ df.np ≤ df.ns) (h : ∀ k M, n ≤ k → ∃ env', exS (callN defs k) df.body (args.map some ++ List.replicate (df.ns - df.np) none) M = some (.rt res, env', M)) : Pu defs (n + 1) f args res := by
  intro k M hk
  cases k with
  | zero => omega
  | succ k =>
    obtain ⟨env', e⟩ := h k M (by omega)
    simp only [callN, hd, hl, and_self, if_true, e, retOf, Nat.le_refl]
end DL

set_option maxRecDepth 100000
set_option maxHeartbeats 0
namespace X
open PySem PySem.Spec PyProof.Rows L2 DL

/- printed by gen.py from the claim's T.py -/
def topS (i : Nat) : Stmt := PySem.Challenge.pw_workwide_k62_whole_opening_and_greatest.main.body.getD i (.Pass ⟨0, 0, 0, 0⟩)
/-- is_integer -/
def b_is_integer : DL.S := (.seq (.ret (.and (.isi (.var 0) [.int]) (.one (.not (.isi (.var 0) [.bool]))))) .nil)
abbrev i_is_integer : Nat := 0
abbrev N0 : List Str := ["value"]
abbrev P0 : List Str := ["value"]
abbrev s0 : Stmt := topS 8
/-- is_index -/
def b_is_index : DL.S := (.seq (.ret (.and (.call 0 (.cons (.var 0) .nil)) (.one (.cmp2 .le .lt (.con (.int 0)) (.var 0) (.var 1))))) .nil)
abbrev i_is_index : Nat := 1
abbrev N1 : List Str := ["value", "many"]
abbrev P1 : List Str := ["value", "many"]
abbrev s1 : Stmt := topS 9
/-- is_list -/
def b_is_list : DL.S := (.seq (.ret (.isi (.var 0) [.list, .tuple])) .nil)
abbrev i_is_list : Nat := 2
abbrev N2 : List Str := ["value"]
abbrev P2 : List Str := ["value"]
abbrev s2 : Stmt := topS 10
/-- is_tuple -/
def b_is_tuple : DL.S := (.seq (.ret (.and (.isi (.var 0) [.tuple]) (.one (.cmp .eq (.blt .len false (.cons (.var 0) .nil)) (.var 1))))) .nil)
abbrev i_is_tuple : Nat := 3
abbrev N3 : List Str := ["value", "many"]
abbrev P3 : List Str := ["value", "many"]
abbrev s3 : Stmt := topS 11
/-- reduced -/
def b_reduced : DL.S := (.seq (.set (.nm 2) (.blt .gcd false (.cons (.var 0) (.cons (.var 1) .nil)))) (.seq (.ite (.cmp .lt (.var 1) (.con (.int 0))) (.seq (.set (.nm 2) (.neg (.var 2))) .nil) .nil) (.seq (.ret (.tup (.cons (.op .fdiv false (.var 0) (.var 2)) (.cons (.op .fdiv false (.var 1) (.var 2)) .nil)))) .nil)))
abbrev i_reduced : Nat := 4
abbrev N4 : List Str := ["top", "base", "common"]
abbrev P4 : List Str := ["top", "base"]
abbrev s4 : Stmt := topS 15
/-- is_fraction -/
def b_is_fraction : DL.S := (.seq (.ite (.or (.not (.call 3 (.cons (.var 0) (.cons (.con (.int 2)) .nil)))) (.one (.not (.blt .all false (.cons (.comp false (.nm 1) [1] (.iseq (.var 0)) .yes (.call 0 (.cons (.var 1) .nil))) .nil))))) (.seq (.ret (.con (.bl false))) .nil) .nil) (.seq (.ret (.and (.cmp .gt (.idx (.var 0) (.con (.int 1))) (.con (.int 0))) (.one (.cmp .eq (.blt .gcd false (.cons (.idx (.var 0) (.con (.int 0))) (.cons (.idx (.var 0) (.con (.int 1))) .nil))) (.con (.int 1)))))) .nil))
abbrev i_is_fraction : Nat := 5
abbrev N5 : List Str := ["value", "item"]
abbrev P5 : List Str := ["value"]
abbrev s5 : Stmt := topS 16
/-- add -/
def b_add : DL.S := (.seq (.ret (.call 4 (.cons (.op .add false (.op .mul false (.idx (.var 0) (.con (.int 0))) (.idx (.var 1) (.con (.int 1)))) (.op .mul false (.idx (.var 1) (.con (.int 0))) (.idx (.var 0) (.con (.int 1))))) (.cons (.op .mul false (.idx (.var 0) (.con (.int 1))) (.idx (.var 1) (.con (.int 1)))) .nil)))) .nil)
abbrev i_add : Nat := 6
abbrev N6 : List Str := ["one", "other"]
abbrev P6 : List Str := ["one", "other"]
abbrev s6 : Stmt := topS 17
/-- subtract -/
def b_subtract : DL.S := (.seq (.ret (.call 4 (.cons (.op .sub false (.op .mul false (.idx (.var 0) (.con (.int 0))) (.idx (.var 1) (.con (.int 1)))) (.op .mul false (.idx (.var 1) (.con (.int 0))) (.idx (.var 0) (.con (.int 1))))) (.cons (.op .mul false (.idx (.var 0) (.con (.int 1))) (.idx (.var 1) (.con (.int 1)))) .nil)))) .nil)
abbrev i_subtract : Nat := 7
abbrev N7 : List Str := ["one", "other"]
abbrev P7 : List Str := ["one", "other"]
abbrev s7 : Stmt := topS 18
/-- multiply -/
def b_multiply : DL.S := (.seq (.ret (.call 4 (.cons (.op .mul false (.idx (.var 0) (.con (.int 0))) (.idx (.var 1) (.con (.int 0)))) (.cons (.op .mul false (.idx (.var 0) (.con (.int 1))) (.idx (.var 1) (.con (.int 1)))) .nil)))) .nil)
abbrev i_multiply : Nat := 8
abbrev N8 : List Str := ["one", "other"]
abbrev P8 : List Str := ["one", "other"]
abbrev s8 : Stmt := topS 19
/-- divide -/
def b_divide : DL.S := (.seq (.ret (.call 4 (.cons (.op .mul false (.idx (.var 0) (.con (.int 0))) (.idx (.var 1) (.con (.int 1)))) (.cons (.op .mul false (.idx (.var 0) (.con (.int 1))) (.idx (.var 1) (.con (.int 0)))) .nil)))) .nil)
abbrev i_divide : Nat := 9
abbrev N9 : List Str := ["one", "other"]
abbrev P9 : List Str := ["one", "other"]
abbrev s9 : Stmt := topS 20
/-- is_below -/
def b_is_below : DL.S := (.seq (.ret (.cmp .lt (.op .mul false (.idx (.var 0) (.con (.int 0))) (.idx (.var 1) (.con (.int 1)))) (.op .mul false (.idx (.var 1) (.con (.int 0))) (.idx (.var 0) (.con (.int 1)))))) .nil)
abbrev i_is_below : Nat := 10
abbrev N10 : List Str := ["one", "other"]
abbrev P10 : List Str := ["one", "other"]
abbrev s10 : Stmt := topS 21
/-- greater_of -/
def b_greater_of : DL.S := (.seq (.ret (.ite (.call 10 (.cons (.var 0) (.cons (.var 1) .nil))) (.var 1) (.var 0))) .nil)
abbrev i_greater_of : Nat := 11
abbrev N11 : List Str := ["one", "other"]
abbrev P11 : List Str := ["one", "other"]
abbrev s11 : Stmt := topS 22
/-- greatest -/
def b_greatest : DL.S := (.seq (.set (.nm 1) (.idx (.var 0) (.con (.int 0)))) (.seq (.for_ (.nm 2) (.iseq (.var 0)) (.seq (.set (.nm 1) (.call 11 (.cons (.var 1) (.cons (.var 2) .nil)))) .nil)) (.seq (.ret (.var 1)) .nil)))
abbrev i_greatest : Nat := 12
abbrev N12 : List Str := ["fractions", "best", "fraction"]
abbrev P12 : List Str := ["fractions"]
abbrev s12 : Stmt := topS 23
/-- sum_of -/
def b_sum_of : DL.S := (.seq (.set (.nm 1) (.glo 0 (.tup [.int 0, .int 1]))) (.seq (.for_ (.nm 2) (.iseq (.var 0)) (.seq (.set (.nm 1) (.call 6 (.cons (.var 1) (.cons (.var 2) .nil)))) .nil)) (.seq (.ret (.var 1)) .nil)))
abbrev i_sum_of : Nat := 13
abbrev N13 : List Str := ["fractions", "total", "fraction"]
abbrev P13 : List Str := ["fractions"]
abbrev s13 : Stmt := topS 24
/-- ascending -/
def b_ascending : DL.S := (.seq (.set (.nm 1) (.lis true .nil)) (.seq (.for_ (.nm 2) (.iseq (.var 0)) (.seq (.set (.nm 3) (.blt .len false (.cons (.comp false (.nm 4) [4] (.iseq (.var 1)) (.not (.call 10 (.cons (.var 2) (.cons (.var 4) .nil)))) (.var 4)) .nil))) (.seq (.expr (.mth .insert false (.var 1) (.cons (.var 3) (.cons (.var 2) .nil)))) .nil))) (.seq (.ret (.var 1)) .nil)))
abbrev i_ascending : Nat := 14
abbrev N14 : List Str := ["fractions", "found", "fraction", "at", "other"]
abbrev P14 : List Str := ["fractions"]
abbrev s14 : Stmt := topS 25
/-- is_box_row -/
def b_is_box_row : DL.S := (.seq (.ite (.or (.not (.call 3 (.cons (.var 0) (.cons (.con (.int 2)) .nil)))) (.or (.not (.call 5 (.cons (.idx (.var 0) (.con (.int 0))) .nil))) (.one (.not (.call 5 (.cons (.idx (.var 0) (.con (.int 1))) .nil)))))) (.seq (.ret (.con (.bl false))) .nil) .nil) (.seq (.ret (.call 10 (.cons (.glo 0 (.tup [.int 0, .int 1])) (.cons (.idx (.var 0) (.con (.int 1))) .nil)))) .nil))
abbrev i_is_box_row : Nat := 15
abbrev N15 : List Str := ["value"]
abbrev P15 : List Str := ["value"]
abbrev s15 : Stmt := topS 29
/-- is_box -/
def b_is_box : DL.S := (.seq (.ite (.or (.not (.isi (.var 0) [.tuple])) (.one (.not (.cmp2 .le .le (.con (.int 1)) (.blt .len false (.cons (.var 0) .nil)) (.glo 2 (.int 32)))))) (.seq (.ret (.con (.bl false))) .nil) .nil) (.seq (.ite (.not (.blt .all false (.cons (.comp false (.nm 1) [1] (.iseq (.var 0)) .yes (.call 15 (.cons (.var 1) .nil))) .nil))) (.seq (.ret (.con (.bl false))) .nil) .nil) (.seq (.ite (.not (.blt .all false (.cons (.comp false (.nm 2) [2] (.irange1 (.op .sub false (.blt .len false (.cons (.var 0) .nil)) (.con (.int 1)))) .yes (.call 10 (.cons (.idx (.idx (.var 0) (.var 2)) (.con (.int 0))) (.cons (.idx (.idx (.var 0) (.op .add false (.var 2) (.con (.int 1)))) (.con (.int 0))) .nil)))) .nil))) (.seq (.ret (.con (.bl false))) .nil) .nil) (.seq (.ret (.cmp .eq (.call 13 (.cons (.comp false (.cons (.nm 3) (.cons (.nm 4) .nil)) [3, 4] (.iseq (.var 0)) .yes (.var 4)) .nil)) (.glo 1 (.tup [.int 1, .int 1])))) .nil))))
abbrev i_is_box : Nat := 16
abbrev N16 : List Str := ["value", "row", "at", "worth", "chance"]
abbrev P16 : List Str := ["value"]
abbrev s16 : Stmt := topS 30
/-- check_box -/
def b_check_box : DL.S := (.seq (.ite (.not (.call 16 (.cons (.var 0) .nil))) (.seq .never .nil) .nil) .nil)
abbrev i_check_box : Nat := 17
abbrev N17 : List Str := ["box"]
abbrev P17 : List Str := ["box"]
abbrev s17 : Stmt := topS 31
/-- drawn_by -/
def b_drawn_by : DL.S := (.seq (.ret (.call 13 (.cons (.comp false (.cons (.nm 2) (.cons (.nm 3) .nil)) [2, 3] (.iseq (.var 0)) .yes (.call 8 (.cons (.var 3) (.cons (.call 12 (.cons (.lis false (.cons (.var 1) (.cons (.var 2) .nil))) .nil)) .nil)))) .nil))) .nil)
abbrev i_drawn_by : Nat := 18
abbrev N18 : List Str := ["box", "worth", "some", "chance"]
abbrev P18 : List Str := ["box", "worth"]
abbrev s18 : Stmt := topS 32
/-- drawn_beside -/
def b_drawn_beside : DL.S := (.seq (.expr (.call 17 (.cons (.var 0) .nil))) (.seq (.ite (.not (.call 5 (.cons (.var 1) .nil))) (.seq .never .nil) .nil) (.seq (.ret (.call 18 (.cons (.var 0) (.cons (.var 1) .nil)))) .nil)))
abbrev i_drawn_beside : Nat := 19
abbrev N19 : List Str := ["box", "worth"]
abbrev P19 : List Str := ["box", "worth"]
abbrev s19 : Stmt := topS 33
/-- at_most -/
def b_at_most : DL.S := (.seq (.ret (.call 13 (.cons (.comp false (.cons (.nm 2) (.cons (.nm 3) .nil)) [2, 3] (.iseq (.var 0)) (.not (.call 10 (.cons (.var 1) (.cons (.var 2) .nil)))) (.var 3)) .nil))) .nil)
abbrev i_at_most : Nat := 20
abbrev N20 : List Str := ["box", "worth", "some", "chance"]
abbrev P20 : List Str := ["box", "worth"]
abbrev s20 : Stmt := topS 34
/-- product_of -/
def b_product_of : DL.S := (.seq (.set (.nm 1) (.glo 1 (.tup [.int 1, .int 1]))) (.seq (.for_ (.nm 2) (.iseq (.var 0)) (.seq (.set (.nm 1) (.call 8 (.cons (.var 1) (.cons (.var 2) .nil)))) .nil)) (.seq (.ret (.var 1)) .nil)))
abbrev i_product_of : Nat := 21
abbrev N21 : List Str := ["numbers", "found", "number"]
abbrev P21 : List Str := ["numbers"]
abbrev s21 : Stmt := topS 35
/-- greatest_of -/
def b_greatest_of : DL.S := (.seq (.par [1, 2] (.cons (.lis true .nil) (.cons (.glo 0 (.tup [.int 0, .int 1])) .nil))) (.seq (.for_ (.nm 3) (.iseq (.call 14 (.cons (.sset false (.comp2 false (.nm 5) [5, 6, 4] (.iseq (.var 0)) (.cons (.nm 6) (.cons (.nm 4) .nil)) [6, 4] (.iseq (.var 5)) (.var 6))) .nil))) (.seq (.set (.nm 4) (.call 21 (.cons (.comp false (.nm 5) [5] (.iseq (.var 0)) .yes (.call 20 (.cons (.var 5) (.cons (.var 3) .nil)))) .nil))) (.seq (.ite (.cmp .ne (.var 4) (.var 2)) (.seq (.expr (.mth .append false (.var 1) (.cons (.tup (.cons (.var 3) (.cons (.call 7 (.cons (.var 4) (.cons (.var 2) .nil))) .nil))) .nil))) (.seq (.set (.nm 2) (.var 4)) .nil)) .nil) .nil))) (.seq (.ret (.blt .tuple false (.cons (.var 1) .nil))) .nil)))
abbrev i_greatest_of : Nat := 22
abbrev N22 : List Str := ["boxes", "rows", "last", "worth", "chance", "box", "some"]
abbrev P22 : List Str := ["boxes"]
abbrev s22 : Stmt := topS 36
/-- greatest_draw -/
def b_greatest_draw : DL.S := (.seq (.ite (.or (.not (.call 2 (.cons (.var 0) .nil))) (.or (.not (.cmp2 .le .le (.con (.int 1)) (.blt .len false (.cons (.var 0) .nil)) (.glo 3 (.int 4)))) (.one (.not (.blt .all false (.cons (.comp false (.nm 2) [2] (.iseq (.var 0)) .yes (.call 16 (.cons (.var 2) .nil))) .nil)))))) (.seq .never .nil) .nil) (.seq (.set (.nm 1) (.call 22 (.cons (.var 0) .nil))) (.seq (.ite (.cmp .gt (.blt .len false (.cons (.var 1) .nil)) (.glo 2 (.int 32))) (.seq .never .nil) .nil) (.seq (.ret (.var 1)) .nil))))
abbrev i_greatest_draw : Nat := 23
abbrev N23 : List Str := ["boxes", "found", "box"]
abbrev P23 : List Str := ["boxes"]
abbrev s23 : Stmt := topS 37
/-- places_of -/
def b_places_of : DL.S := (.seq (.ret (.comp true (.cons (.nm 2) (.cons (.nm 3) .nil)) [2, 3] (.ienum (.var 0)) (.cmp .eq (.var 3) (.var 1)) (.var 2))) .nil)
abbrev i_places_of : Nat := 24
abbrev N24 : List Str := ["numbers", "number", "at", "some"]
abbrev P24 : List Str := ["numbers", "number"]
abbrev s24 : Stmt := topS 39
/-- is_costly_box -/
def b_is_costly_box : DL.S := (.seq (.ret (.and (.call 3 (.cons (.var 0) (.cons (.con (.int 2)) .nil))) (.and (.call 5 (.cons (.idx (.var 0) (.con (.int 0))) .nil)) (.and (.call 10 (.cons (.glo 0 (.tup [.int 0, .int 1])) (.cons (.idx (.var 0) (.con (.int 0))) .nil))) (.one (.call 16 (.cons (.idx (.var 0) (.con (.int 1))) .nil))))))) .nil)
abbrev i_is_costly_box : Nat := 25
abbrev N25 : List Str := ["value"]
abbrev P25 : List Str := ["value"]
abbrev s25 : Stmt := topS 42
/-- check_costly -/
def b_check_costly : DL.S := (.seq (.ite (.not (.call 25 (.cons (.var 0) .nil))) (.seq .never .nil) .nil) .nil)
abbrev i_check_costly : Nat := 26
abbrev N26 : List Str := ["costly"]
abbrev P26 : List Str := ["costly"]
abbrev s26 : Stmt := topS 43
/-- beyond -/
def b_beyond : DL.S := (.seq (.ret (.call 7 (.cons (.call 18 (.cons (.var 0) (.cons (.var 1) .nil))) (.cons (.var 1) .nil)))) .nil)
abbrev i_beyond : Nat := 27
abbrev N27 : List Str := ["box", "worth"]
abbrev P27 : List Str := ["box", "worth"]
abbrev s27 : Stmt := topS 44
/-- reserve_of -/
def b_reserve_of : DL.S := (.seq (.set (.cons (.nm 1) (.cons (.nm 2) .nil)) (.var 0)) (.seq (.setc 3 (.comp false (.cons (.nm 6) (.cons (.nm 5) .nil)) [6, 5] (.iseq (.var 2)) (.not (.call 10 (.cons (.call 27 (.cons (.var 2) (.cons (.var 6) .nil))) (.cons (.var 1) .nil)))) (.var 6))) (.seq (.set (.nm 4) (.ite (.cmp .ne (.var 3) (.lis false .nil)) (.idx (.var 3) (.neg (.con (.int 1)))) (.idx (.idx (.var 2) (.con (.int 0))) (.con (.int 0))))) (.seq (.set (.nm 5) (.ite (.cmp .ne (.var 3) (.lis false .nil)) (.call 7 (.cons (.glo 1 (.tup [.int 1, .int 1])) (.cons (.call 20 (.cons (.var 2) (.cons (.var 4) .nil))) .nil))) (.glo 1 (.tup [.int 1, .int 1])))) (.seq (.ret (.call 6 (.cons (.var 4) (.cons (.call 9 (.cons (.call 7 (.cons (.call 27 (.cons (.var 2) (.cons (.var 4) .nil))) (.cons (.var 1) .nil))) (.cons (.var 5) .nil))) .nil)))) .nil)))))
abbrev i_reserve_of : Nat := 28
abbrev N28 : List Str := ["costly", "cost", "box", "below", "mark", "chance", "worth"]
abbrev P28 : List Str := ["costly"]
abbrev s28 : Stmt := topS 45
/-- reserve -/
def b_reserve : DL.S := (.seq (.expr (.call 26 (.cons (.var 0) .nil))) (.seq (.ret (.call 28 (.cons (.var 0) .nil))) .nil))
abbrev i_reserve : Nat := 29
abbrev N29 : List Str := ["costly"]
abbrev P29 : List Str := ["costly"]
abbrev s29 : Stmt := topS 46
/-- capped_by -/
def b_capped_by : DL.S := (.seq (.setc 2 (.comp false (.cons (.nm 4) (.cons (.nm 5) .nil)) [4, 5] (.iseq (.var 0)) (.call 10 (.cons (.var 4) (.cons (.var 1) .nil))) (.tup (.cons (.var 4) (.cons (.var 5) .nil))))) (.seq (.set (.nm 3) (.call 13 (.cons (.comp false (.cons (.nm 4) (.cons (.nm 5) .nil)) [4, 5] (.iseq (.var 0)) (.not (.call 10 (.cons (.var 4) (.cons (.var 1) .nil)))) (.var 5)) .nil))) (.seq (.ret (.ite (.cmp .ne (.var 3) (.glo 0 (.tup [.int 0, .int 1]))) (.tup (.star (.var 2) (.cons (.tup (.cons (.var 1) (.cons (.var 3) .nil))) .nil))) (.blt .tuple false (.cons (.var 2) .nil)))) .nil)))
abbrev i_capped_by : Nat := 30
abbrev N30 : List Str := ["box", "most", "rows", "rest", "worth", "chance"]
abbrev P30 : List Str := ["box", "most"]
abbrev s30 : Stmt := topS 47
/-- capped_of -/
def b_capped_of : DL.S := (.seq (.ret (.call 30 (.cons (.idx (.var 0) (.con (.int 1))) (.cons (.call 28 (.cons (.var 0) .nil)) .nil)))) .nil)
abbrev i_capped_of : Nat := 31
abbrev N31 : List Str := ["costly"]
abbrev P31 : List Str := ["costly"]
abbrev s31 : Stmt := topS 48
/-- capped -/
def b_capped : DL.S := (.seq (.expr (.call 26 (.cons (.var 0) .nil))) (.seq (.ret (.call 31 (.cons (.var 0) .nil))) .nil))
abbrev i_capped : Nat := 32
abbrev N32 : List Str := ["costly"]
abbrev P32 : List Str := ["costly"]
abbrev s32 : Stmt := topS 49
/-- check_opening -/
def b_check_opening : DL.S := (.seq (.ite (.or (.not (.call 2 (.cons (.var 0) .nil))) (.one (.not (.cmp2 .le .le (.con (.int 1)) (.blt .len false (.cons (.var 0) .nil)) (.glo 4 (.int 4)))))) (.seq .never .nil) .nil) (.seq (.ite (.not (.blt .all false (.cons (.comp false (.nm 2) [2] (.iseq (.var 0)) .yes (.call 25 (.cons (.var 2) .nil))) .nil))) (.seq .never .nil) .nil) (.seq (.ite (.not (.call 5 (.cons (.var 1) .nil))) (.seq .never .nil) .nil) .nil)))
abbrev i_check_opening : Nat := 33
abbrev N33 : List Str := ["costlies", "offer", "costly"]
abbrev P33 : List Str := ["costlies", "offer"]
abbrev s33 : Stmt := topS 50
/-- opened_by -/
def b_opened_by : DL.S := (.seq (.ite (.cmp .eq (.blt .len false (.cons (.var 0) .nil)) (.con (.int 0))) (.seq (.ret (.var 1)) .nil) .nil) (.seq (.ret (.call 18 (.cons (.call 22 (.cons (.comp false (.nm 2) [2] (.iseq (.var 0)) .yes (.call 31 (.cons (.var 2) .nil))) .nil)) (.cons (.var 1) .nil)))) .nil))
abbrev i_opened_by : Nat := 34
abbrev N34 : List Str := ["costlies", "offer", "costly"]
abbrev P34 : List Str := ["costlies", "offer"]
abbrev s34 : Stmt := topS 51
/-- opening_worth -/
def b_opening_worth : DL.S := (.seq (.expr (.call 33 (.cons (.var 0) (.cons (.var 1) .nil)))) (.seq (.ret (.call 34 (.cons (.var 0) (.cons (.var 1) .nil)))) .nil))
abbrev i_opening_worth : Nat := 35
abbrev N35 : List Str := ["costlies", "offer"]
abbrev P35 : List Str := ["costlies", "offer"]
abbrev s35 : Stmt := topS 52
/-- worth_if_opened -/
def b_worth_if_opened : DL.S := (.seq (.expr (.call 33 (.cons (.var 0) (.cons (.var 1) .nil)))) (.seq (.ite (.not (.call 1 (.cons (.var 2) (.cons (.blt .len false (.cons (.var 0) .nil)) .nil)))) (.seq .never .nil) .nil) (.seq (.set (.cons (.nm 3) (.cons (.nm 4) .nil)) (.idx (.var 0) (.var 2))) (.seq (.set (.nm 5) (.comp false (.cons (.nm 7) (.cons (.nm 8) .nil)) [7, 8] (.ienum (.var 0)) (.cmp .ne (.var 7) (.var 2)) (.var 8))) (.seq (.setc 6 (.comp false (.cons (.nm 9) (.cons (.nm 10) .nil)) [9, 10] (.iseq (.var 4)) .yes (.call 8 (.cons (.var 10) (.cons (.call 34 (.cons (.var 5) (.cons (.call 11 (.cons (.var 1) (.cons (.var 9) .nil))) .nil))) .nil))))) (.seq (.ret (.call 7 (.cons (.call 13 (.cons (.var 6) .nil)) (.cons (.var 3) .nil)))) .nil))))))
abbrev i_worth_if_opened : Nat := 36
abbrev N36 : List Str := ["costlies", "offer", "position", "cost", "box", "others", "means", "at", "costly", "worth", "chance"]
abbrev P36 : List Str := ["costlies", "offer", "position"]
abbrev s36 : Stmt := topS 53
/-- right_openings -/
def b_right_openings : DL.S := (.seq (.expr (.call 33 (.cons (.var 0) (.cons (.var 1) .nil)))) (.seq (.setc 2 (.comp false (.nm 4) [4] (.iseq (.var 0)) .yes (.call 28 (.cons (.var 4) .nil)))) (.seq (.set (.nm 3) (.call 12 (.cons (.var 2) .nil))) (.seq (.ret (.tup (.cons (.ite (.call 10 (.cons (.var 3) (.cons (.var 1) .nil))) (.lis true .nil) (.call 24 (.cons (.var 2) (.cons (.var 3) .nil)))) (.cons (.not (.call 10 (.cons (.var 1) (.cons (.var 3) .nil)))) .nil)))) .nil))))
abbrev i_right_openings : Nat := 37
abbrev N37 : List Str := ["costlies", "offer", "reserves", "best", "costly"]
abbrev P37 : List Str := ["costlies", "offer"]
abbrev s37 : Stmt := topS 54
/-- fall_at -/
def b_fall_at : DL.S := (.seq (.ret (.call 7 (.cons (.call 18 (.cons (.var 0) (.cons (.var 2) .nil))) (.cons (.call 18 (.cons (.var 1) (.cons (.var 2) .nil))) .nil)))) .nil)
abbrev i_fall_at : Nat := 38
abbrev N38 : List Str := ["old", "new", "offer"]
abbrev P38 : List Str := ["old", "new", "offer"]
abbrev s38 : Stmt := topS 55
/-- opening_harm_of -/
def b_opening_harm_of : DL.S := (.seq (.par [2, 3] (.cons (.lis false (.cons (.call 31 (.cons (.var 0) .nil)) (.cons (.call 31 (.cons (.var 1) .nil)) .nil))) (.cons (.con (.non)) .nil))) (.seq (.for_ (.nm 4) (.iseq (.blt .sorted false (.cons (.comp2 false (.nm 6) [6, 7, 8] (.iseq (.var 2)) (.cons (.nm 7) (.cons (.nm 8) .nil)) [7, 8] (.iseq (.var 6)) (.var 7)) .nil))) (.seq (.set (.nm 5) (.call 38 (.cons (.idx (.var 2) (.con (.int 0))) (.cons (.idx (.var 2) (.con (.int 1))) (.cons (.var 4) .nil))))) (.seq (.ite (.or (.cmp .is (.var 3) (.con (.non))) (.one (.call 10 (.cons (.idx (.var 3) (.con (.int 0))) (.cons (.var 5) .nil))))) (.seq (.set (.nm 3) (.tup (.cons (.var 5) (.cons (.var 4) .nil)))) .nil) .nil) .nil))) (.seq (.ret (.var 3)) .nil)))
abbrev i_opening_harm_of : Nat := 39
abbrev N39 : List Str := ["old", "new", "boxes", "best", "offer", "number", "box", "worth", "chance"]
abbrev P39 : List Str := ["old", "new"]
abbrev s39 : Stmt := topS 56
/-- opening_harm -/
def b_opening_harm : DL.S := (.seq (.expr (.call 26 (.cons (.var 0) .nil))) (.seq (.expr (.call 26 (.cons (.var 1) .nil))) (.seq (.ret (.call 39 (.cons (.var 0) (.cons (.var 1) .nil)))) .nil)))
abbrev i_opening_harm : Nat := 40
abbrev N40 : List Str := ["old", "new"]
abbrev P40 : List Str := ["old", "new"]
abbrev s40 : Stmt := topS 57
/-- is_opening_harm -/
def b_is_opening_harm : DL.S := (.seq (.expr (.call 26 (.cons (.var 0) .nil))) (.seq (.expr (.call 26 (.cons (.var 1) .nil))) (.seq (.ite (.or (.not (.call 3 (.cons (.var 2) (.cons (.con (.int 2)) .nil)))) (.or (.not (.call 5 (.cons (.idx (.var 2) (.con (.int 0))) .nil))) (.one (.not (.call 5 (.cons (.idx (.var 2) (.con (.int 1))) .nil)))))) (.seq (.ret (.con (.bl false))) .nil) .nil) (.seq (.ret (.cmp2 .eq .eq (.idx (.var 2) (.con (.int 0))) (.idx (.call 39 (.cons (.var 0) (.cons (.var 1) .nil))) (.con (.int 0))) (.call 38 (.cons (.call 31 (.cons (.var 0) .nil)) (.cons (.call 31 (.cons (.var 1) .nil)) (.cons (.idx (.var 2) (.con (.int 1))) .nil)))))) .nil))))
abbrev i_is_opening_harm : Nat := 41
abbrev N41 : List Str := ["old", "new", "value"]
abbrev P41 : List Str := ["old", "new", "value"]
abbrev s41 : Stmt := topS 58
/-- _law_cell -/
def b__law_cell : DL.S := (.seq (.ret (.ite (.cmp .lt (.var 1) (.blt .len false (.cons (.var 0) .nil))) (.idx (.var 0) (.var 1)) (.op .add false (.op .mul false (.con (.int 4721)) (.var 1)) (.op .mod false (.blt .int false (.cons (.blt .sum false (.cons (.sli false (.var 0) .nil (.cons (.con (.int 1)) .nil)) .nil)) .nil)) (.con (.int 1000003)))))) .nil)
abbrev i__law_cell : Nat := 42
abbrev N42 : List Str := ["script", "k"]
abbrev P42 : List Str := ["script", "k"]
abbrev s42 : Stmt := topS 60
/-- _law_box -/
def b__law_box : DL.S := (.seq (.ret (.lis true (.cons (.blt .abs false (.cons (.var 0) .nil)) (.cons (.cmp .ge (.blt .abs false (.cons (.var 0) .nil)) (.op .pow false (.con (.int 10)) (.con (.int 18)))) (.cons (.op .mod false (.blt .int false (.cons (.blt .abs false (.cons (.var 0) .nil)) .nil)) (.con (.int 2147483629))) (.cons (.con (.int 0)) .nil)))))) .nil)
abbrev i__law_box : Nat := 43
abbrev N43 : List Str := ["great"]
abbrev P43 : List Str := ["great"]
abbrev s43 : Stmt := topS 61
/-- _law_take -/
def b__law_take : DL.S := (.seq (.ite (.and (.idx (.var 0) (.con (.int 1))) (.one (.cmp .gt (.idx (.var 0) (.con (.int 0))) (.con (.int 0))))) (.seq (.set (.nm 2) (.op .mod false (.blt .int false (.cons (.idx (.var 0) (.con (.int 0))) .nil)) (.var 1))) (.seq (.put (.var 0) (.con (.int 0)) (.op .fdiv false (.idx (.var 0) (.con (.int 0))) (.var 1))) (.seq (.ret (.var 2)) .nil))) .nil) (.seq (.put (.var 0) (.con (.int 3)) (.op .add false (.idx (.var 0) (.con (.int 3))) (.con (.int 1)))) (.seq (.set (.nm 3) (.op .mod false (.blt .int false (.cons (.op .pow false (.op .add false (.op .add false (.idx (.var 0) (.con (.int 2))) (.op .mul false (.con (.int 15484879)) (.idx (.var 0) (.con (.int 3))))) (.con (.int 179424317))) (.con (.int 5))) .nil)) (.con (.int 2147483647)))) (.seq (.ret (.op .mod false (.blt .int false (.cons (.op .fdiv false (.op .mod false (.blt .int false (.cons (.op .pow false (.op .add false (.op .mul false (.var 3) (.con (.int 48271))) (.op .mul false (.con (.int 4721)) (.idx (.var 0) (.con (.int 3))))) (.con (.int 3))) .nil)) (.con (.int 2147483587))) (.con (.int 64))) .nil)) (.var 1))) .nil))))
abbrev i__law_take : Nat := 44
abbrev N44 : List Str := ["box", "many", "digit", "mixed"]
abbrev P44 : List Str := ["box", "many"]
abbrev s44 : Stmt := topS 62
/-- _law_same -/
def b__law_same : DL.S := (.seq (.ite (.cmp .is (.var 1) (.con (.non))) (.seq (.ret (.cmp .is (.var 0) (.con (.non)))) .nil) .nil) (.seq (.ite (.isi (.var 1) [.bool]) (.seq (.ret (.and (.isi (.var 0) [.bool]) (.one (.cmp .eq (.var 0) (.var 1))))) .nil) .nil) (.seq (.ite (.isi (.var 1) [.int]) (.seq (.ret (.and (.isi (.var 0) [.int]) (.and (.not (.isi (.var 0) [.bool])) (.one (.cmp .eq (.var 0) (.var 1)))))) .nil) .nil) (.seq (.ite (.isi (.var 1) [.str]) (.seq (.ret (.and (.isi (.var 0) [.str]) (.one (.cmp .eq (.var 0) (.var 1))))) .nil) .nil) (.seq (.ite (.or (.cmp .ne (.isi (.var 0) [.list]) (.isi (.var 1) [.list])) (.one (.cmp .ne (.isi (.var 0) [.tuple]) (.isi (.var 1) [.tuple])))) (.seq (.ret (.con (.bl false))) .nil) .nil) (.seq (.ret (.and (.cmp .eq (.blt .len false (.cons (.var 0) .nil)) (.blt .len false (.cons (.var 1) .nil))) (.one (.cmp .eq (.comp false (.nm 2) [2] (.irange1 (.blt .len false (.cons (.var 1) .nil))) (.not (.call 45 (.cons (.idx (.var 0) (.var 2)) (.cons (.idx (.var 1) (.var 2)) .nil)))) (.var 2)) (.lis false .nil))))) .nil))))))
abbrev i__law_same : Nat := 45
abbrev N45 : List Str := ["told", "due", "k"]
abbrev P45 : List Str := ["told", "due"]
abbrev s45 : Stmt := topS 63
/-- _law_low -/
def b__law_low : DL.S := (.seq (.par [2, 3] (.cons (.blt .abs false (.cons (.var 0) .nil)) (.cons (.blt .abs false (.cons (.var 1) .nil)) .nil))) (.seq (.while_ (.cmp .ne (.var 3) (.con (.int 0))) (.seq (.par [2, 3] (.cons (.var 3) (.cons (.op .mod false (.blt .int false (.cons (.var 2) .nil)) (.var 3)) .nil))) .nil)) (.seq (.set (.nm 2) (.ite (.cmp .gt (.var 1) (.con (.int 0))) (.var 2) (.neg (.var 2)))) (.seq (.ret (.tup (.cons (.op .fdiv false (.var 0) (.var 2)) (.cons (.op .fdiv false (.var 1) (.var 2)) .nil)))) .nil))))
abbrev i__law_low : Nat := 46
abbrev N46 : List Str := ["top", "base", "one", "other"]
abbrev P46 : List Str := ["top", "base"]
abbrev s46 : Stmt := topS 64
/-- _law_plus -/
def b__law_plus : DL.S := (.seq (.ret (.call 46 (.cons (.op .add false (.op .mul false (.idx (.var 0) (.con (.int 0))) (.idx (.var 1) (.con (.int 1)))) (.op .mul false (.idx (.var 1) (.con (.int 0))) (.idx (.var 0) (.con (.int 1))))) (.cons (.op .mul false (.idx (.var 0) (.con (.int 1))) (.idx (.var 1) (.con (.int 1)))) .nil)))) .nil)
abbrev i__law_plus : Nat := 47
abbrev N47 : List Str := ["one", "other"]
abbrev P47 : List Str := ["one", "other"]
abbrev s47 : Stmt := topS 65
/-- _law_minus -/
def b__law_minus : DL.S := (.seq (.ret (.call 46 (.cons (.op .sub false (.op .mul false (.idx (.var 0) (.con (.int 0))) (.idx (.var 1) (.con (.int 1)))) (.op .mul false (.idx (.var 1) (.con (.int 0))) (.idx (.var 0) (.con (.int 1))))) (.cons (.op .mul false (.idx (.var 0) (.con (.int 1))) (.idx (.var 1) (.con (.int 1)))) .nil)))) .nil)
abbrev i__law_minus : Nat := 48
abbrev N48 : List Str := ["one", "other"]
abbrev P48 : List Str := ["one", "other"]
abbrev s48 : Stmt := topS 66
/-- _law_times -/
def b__law_times : DL.S := (.seq (.ret (.call 46 (.cons (.op .mul false (.idx (.var 0) (.con (.int 0))) (.idx (.var 1) (.con (.int 0)))) (.cons (.op .mul false (.idx (.var 0) (.con (.int 1))) (.idx (.var 1) (.con (.int 1)))) .nil)))) .nil)
abbrev i__law_times : Nat := 49
abbrev N49 : List Str := ["one", "other"]
abbrev P49 : List Str := ["one", "other"]
abbrev s49 : Stmt := topS 67
/-- _law_over -/
def b__law_over : DL.S := (.seq (.ret (.call 46 (.cons (.op .mul false (.idx (.var 0) (.con (.int 0))) (.idx (.var 1) (.con (.int 1)))) (.cons (.op .mul false (.idx (.var 0) (.con (.int 1))) (.idx (.var 1) (.con (.int 0)))) .nil)))) .nil)
abbrev i__law_over : Nat := 50
abbrev N50 : List Str := ["one", "other"]
abbrev P50 : List Str := ["one", "other"]
abbrev s50 : Stmt := topS 68
/-- _law_less -/
def b__law_less : DL.S := (.seq (.ret (.cmp .lt (.op .mul false (.idx (.var 0) (.con (.int 0))) (.idx (.var 1) (.con (.int 1)))) (.op .mul false (.idx (.var 1) (.con (.int 0))) (.idx (.var 0) (.con (.int 1)))))) .nil)
abbrev i__law_less : Nat := 51
abbrev N51 : List Str := ["one", "other"]
abbrev P51 : List Str := ["one", "other"]
abbrev s51 : Stmt := topS 69
/-- _law_total -/
def b__law_total : DL.S := (.seq (.set (.nm 1) (.tup (.cons (.con (.int 0)) (.cons (.con (.int 1)) .nil)))) (.seq (.for_ (.nm 2) (.iseq (.var 0)) (.seq (.set (.nm 1) (.call 47 (.cons (.var 1) (.cons (.var 2) .nil)))) .nil)) (.seq (.ret (.var 1)) .nil)))
abbrev i__law_total : Nat := 52
abbrev N52 : List Str := ["amounts", "found", "amount"]
abbrev P52 : List Str := ["amounts"]
abbrev s52 : Stmt := topS 70
/-- _law_in_order -/
def b__law_in_order : DL.S := (.seq (.set (.nm 1) (.lis false .nil)) (.seq (.for_ (.nm 2) (.iseq (.var 0)) (.seq (.ite (.cmp .notin (.var 2) (.var 1)) (.seq (.set (.nm 3) (.blt .len false (.cons (.comp false (.nm 4) [4] (.iseq (.var 1)) (.call 51 (.cons (.var 4) (.cons (.var 2) .nil))) (.var 4)) .nil))) (.seq (.set (.nm 1) (.op .add false (.op .add false (.sli false (.var 1) .nil (.cons (.var 3) .nil)) (.lis false (.cons (.var 2) .nil))) (.sli false (.var 1) (.cons (.var 3) .nil) .nil))) .nil)) .nil) .nil)) (.seq (.ret (.var 1)) .nil)))
abbrev i__law_in_order : Nat := 53
abbrev N53 : List Str := ["numbers", "found", "number", "at", "other"]
abbrev P53 : List Str := ["numbers"]
abbrev s53 : Stmt := topS 71
/-- _law_greater -/
def b__law_greater : DL.S := (.seq (.ret (.ite (.call 51 (.cons (.var 0) (.cons (.var 1) .nil))) (.var 1) (.var 0))) .nil)
abbrev i__law_greater : Nat := 54
abbrev N54 : List Str := ["one", "other"]
abbrev P54 : List Str := ["one", "other"]
abbrev s54 : Stmt := topS 72
/-- _law_drawn -/
def b__law_drawn : DL.S := (.seq (.ret (.call 52 (.cons (.comp false (.cons (.nm 2) (.cons (.nm 3) .nil)) [2, 3] (.iseq (.var 0)) .yes (.call 49 (.cons (.var 3) (.cons (.call 54 (.cons (.var 1) (.cons (.var 2) .nil))) .nil)))) .nil))) .nil)
abbrev i__law_drawn : Nat := 55
abbrev N55 : List Str := ["some", "worth", "draw", "chance"]
abbrev P55 : List Str := ["some", "worth"]
abbrev s55 : Stmt := topS 73
/-- _law_beyond -/
def b__law_beyond : DL.S := (.seq (.ret (.call 52 (.cons (.comp false (.cons (.nm 2) (.cons (.nm 3) .nil)) [2, 3] (.iseq (.var 0)) (.call 51 (.cons (.var 1) (.cons (.var 2) .nil))) (.call 49 (.cons (.var 3) (.cons (.call 48 (.cons (.var 2) (.cons (.var 1) .nil))) .nil)))) .nil))) .nil)
abbrev i__law_beyond : Nat := 56
abbrev N56 : List Str := ["some", "number", "draw", "chance"]
abbrev P56 : List Str := ["some", "number"]
abbrev s56 : Stmt := topS 74
/-- _law_reserve -/
def b__law_reserve : DL.S := (.seq (.set (.cons (.nm 1) (.cons (.nm 2) .nil)) (.var 0)) (.seq (.set (.nm 3) (.comp false (.cons (.nm 7) (.cons (.nm 8) .nil)) [7, 8] (.iseq (.var 2)) .yes (.var 7))) (.seq (.for_ (.nm 4) (.irange3 (.op .sub false (.blt .len false (.cons (.var 3) .nil)) (.con (.int 1))) (.neg (.con (.int 1))) (.neg (.con (.int 1)))) (.seq (.set (.nm 5) (.call 56 (.cons (.var 2) (.cons (.idx (.var 3) (.var 4)) .nil)))) (.seq (.ite (.not (.call 51 (.cons (.var 5) (.cons (.var 1) .nil)))) (.seq (.set (.nm 6) (.call 52 (.cons (.comp false (.cons (.nm 7) (.cons (.nm 8) .nil)) [7, 8] (.iseq (.var 2)) (.call 51 (.cons (.idx (.var 3) (.var 4)) (.cons (.var 7) .nil))) (.var 8)) .nil))) (.seq (.ret (.call 47 (.cons (.idx (.var 3) (.var 4)) (.cons (.call 50 (.cons (.call 48 (.cons (.var 5) (.cons (.var 1) .nil))) (.cons (.var 6) .nil))) .nil)))) .nil)) .nil) .nil))) (.seq (.ret (.call 48 (.cons (.idx (.var 3) (.con (.int 0))) (.cons (.call 48 (.cons (.var 1) (.cons (.call 56 (.cons (.var 2) (.cons (.idx (.var 3) (.con (.int 0))) .nil))) .nil))) .nil)))) .nil))))
abbrev i__law_reserve : Nat := 57
abbrev N57 : List Str := ["costly", "cost", "some", "marks", "at", "here", "share", "draw", "chance"]
abbrev P57 : List Str := ["costly"]
abbrev s57 : Stmt := topS 75
/-- _law_capped -/
def b__law_capped : DL.S := (.seq (.set (.cons (.nm 1) (.cons (.nm 2) .nil)) (.tup (.cons (.call 57 (.cons (.var 0) .nil)) (.cons (.dict0 true) .nil)))) (.seq (.for_ (.cons (.nm 3) (.cons (.nm 4) .nil)) (.iseq (.idx (.var 0) (.con (.int 1)))) (.seq (.set (.nm 5) (.ite (.call 51 (.cons (.var 1) (.cons (.var 3) .nil))) (.var 1) (.var 3))) (.seq (.put (.var 2) (.var 5) (.call 47 (.cons (.mth .get2 false (.var 2) (.cons (.var 5) (.cons (.tup (.cons (.con (.int 0)) (.cons (.con (.int 1)) .nil))) .nil))) (.cons (.var 4) .nil)))) .nil))) (.seq (.ret (.blt .tuple false (.cons (.comp false (.nm 5) [5] (.iseq (.call 53 (.cons (.blt .list false (.cons (.var 2) .nil)) .nil))) .yes (.tup (.cons (.var 5) (.cons (.idx (.var 2) (.var 5)) .nil)))) .nil))) .nil)))
abbrev i__law_capped : Nat := 58
abbrev N58 : List Str := ["costly", "most", "found", "draw", "chance", "key"]
abbrev P58 : List Str := ["costly"]
abbrev s58 : Stmt := topS 76
/-- _law_opened -/
def b__law_opened : DL.S := (.seq (.set (.nm 2) (.lis false (.cons (.var 1) .nil))) (.seq (.for_ (.cons (.nm 3) (.cons (.nm 4) .nil)) (.iseq (.var 0)) (.seq (.set (.nm 2) (.op .add false (.var 2) (.comp false (.cons (.nm 11) (.cons (.nm 12) .nil)) [11, 12] (.iseq (.var 4)) .yes (.var 11)))) .nil)) (.seq (.par [2, 5] (.cons (.comp false (.nm 10) [10] (.iseq (.call 53 (.cons (.var 2) .nil))) (.not (.call 51 (.cons (.var 10) (.cons (.var 1) .nil)))) (.var 10)) (.cons (.dict0 true) .nil))) (.seq (.for_ (.nm 6) (.irange3 (.op .sub false (.op .shl false (.con (.int 1)) (.blt .len false (.cons (.var 0) .nil))) (.con (.int 1))) (.neg (.con (.int 1))) (.neg (.con (.int 1)))) (.seq (.for_ (.nm 7) (.iseq (.var 2)) (.seq (.set (.nm 8) (.var 7)) (.seq (.for_ (.nm 9) (.irange1 (.blt .len false (.cons (.var 0) .nil))) (.seq (.ite (.not (.op .band false (.op .shr false (.var 6) (.var 9)) (.con (.int 1)))) (.seq (.set (.nm 8) (.call 54 (.cons (.var 8) (.cons (.call 60 (.cons (.var 0) (.cons (.var 5) (.cons (.var 6) (.cons (.var 7) (.cons (.var 9) .nil)))))) .nil)))) .nil) .nil) .nil)) (.seq (.put (.var 5) (.tup (.cons (.var 6) (.cons (.var 7) .nil))) (.var 8)) .nil)))) .nil)) (.seq (.ret (.var 5)) .nil)))))
abbrev i__law_opened : Nat := 59
abbrev N59 : List Str := ["costlies", "offer", "marks", "cost", "some", "values", "mask", "best", "found", "k", "mark", "draw", "chance"]
abbrev P59 : List Str := ["costlies", "offer"]
abbrev s59 : Stmt := topS 77
/-- _law_open -/
def b__law_open : DL.S := (.seq (.set (.cons (.nm 5) (.cons (.nm 6) .nil)) (.idx (.var 0) (.var 4))) (.seq (.setc 7 (.comp false (.cons (.nm 8) (.cons (.nm 9) .nil)) [8, 9] (.iseq (.var 6)) .yes (.call 49 (.cons (.var 9) (.cons (.idx (.var 1) (.tup (.cons (.op .bor false (.var 2) (.op .shl false (.con (.int 1)) (.var 4))) (.cons (.call 54 (.cons (.var 3) (.cons (.var 8) .nil))) .nil)))) .nil))))) (.seq (.ret (.call 48 (.cons (.call 52 (.cons (.var 7) .nil)) (.cons (.var 5) .nil)))) .nil)))
abbrev i__law_open : Nat := 60
abbrev N60 : List Str := ["costlies", "values", "mask", "best", "k", "cost", "some", "rows", "draw", "chance"]
abbrev P60 : List Str := ["costlies", "values", "mask", "best", "k"]
abbrev s60 : Stmt := topS 78
/-- _law_box_drawn -/
def b__law_box_drawn : DL.S := (.seq (.set (.nm 2) (.call 53 (.cons (.comp false (.nm 5) [5] (.irange1 (.op .add false (.con (.int 1)) (.call 44 (.cons (.var 0) (.cons (.con (.int 3)) .nil))))) .yes (.call 46 (.cons (.op .mul false (.op .sub false (.call 44 (.cons (.var 0) (.cons (.con (.int 15)) .nil))) (.con (.int 4))) (.var 1)) (.cons (.idx (.lis false (.cons (.con (.int 1)) (.cons (.con (.int 1)) (.cons (.con (.int 2)) (.cons (.con (.int 3)) .nil))))) (.call 44 (.cons (.var 0) (.cons (.con (.int 4)) .nil)))) .nil)))) .nil))) (.seq (.set (.nm 3) (.comp false (.nm 4) [4] (.iseq (.var 2)) .yes (.op .add false (.con (.int 1)) (.call 44 (.cons (.var 0) (.cons (.con (.int 4)) .nil)))))) (.seq (.ret (.blt .tuple false (.cons (.comp false (.nm 5) [5] (.irange1 (.blt .len false (.cons (.var 2) .nil))) .yes (.tup (.cons (.idx (.var 2) (.var 5)) (.cons (.call 46 (.cons (.idx (.var 3) (.var 5)) (.cons (.blt .sum false (.cons (.var 3) .nil)) .nil))) .nil)))) .nil))) .nil)))
abbrev i__law_box_drawn : Nat := 61
abbrev N61 : List Str := ["box", "unit", "marks", "weights", "mark", "k"]
abbrev P61 : List Str := ["box", "unit"]
abbrev s61 : Stmt := topS 79
/-- _law_costly -/
def b__law_costly : DL.S := (.seq (.ret (.tup (.cons (.call 46 (.cons (.op .mul false (.op .add false (.con (.int 1)) (.call 44 (.cons (.var 0) (.cons (.con (.int 6)) .nil)))) (.var 1)) (.cons (.op .add false (.con (.int 1)) (.call 44 (.cons (.var 0) (.cons (.con (.int 4)) .nil)))) .nil))) (.cons (.call 61 (.cons (.var 0) (.cons (.var 1) .nil))) .nil)))) .nil)
abbrev i__law_costly : Nat := 62
abbrev N62 : List Str := ["box", "unit"]
abbrev P62 : List Str := ["box", "unit"]
abbrev s62 : Stmt := topS 80
/-- _law_list_right -/
def b__law_list_right : DL.S := (.seq (.set (.nm 3) (.call 59 (.cons (.var 0) (.cons (.var 1) .nil)))) (.seq (.set (.cons (.nm 4) (.cons (.nm 5) .nil)) (.tup (.cons (.idx (.var 3) (.tup (.cons (.con (.int 0)) (.cons (.var 1) .nil)))) (.cons (.comp false (.nm 7) [7] (.irange1 (.blt .len false (.cons (.var 0) .nil))) .yes (.call 60 (.cons (.var 0) (.cons (.var 3) (.cons (.con (.int 0)) (.cons (.var 1) (.cons (.var 7) .nil))))))) .nil)))) (.seq (.set (.nm 6) (.ite (.cmp .eq (.var 2) (.con (.int 0))) (.call 35 (.cons (.var 0) (.cons (.var 1) .nil))) (.callk 35 [1, 0] .nil (.cons (.var 1) (.cons (.blt .tuple false (.cons (.var 0) .nil)) .nil))))) (.seq (.ite (.not (.call 45 (.cons (.var 6) (.cons (.var 4) .nil)))) (.seq (.ret (.con (.bl false))) .nil) .nil) (.seq (.for_ (.nm 7) (.irange1 (.blt .len false (.cons (.var 0) .nil))) (.seq (.ite (.not (.call 45 (.cons (.ite (.cmp .eq (.var 2) (.con (.int 0))) (.call 36 (.cons (.var 0) (.cons (.var 1) (.cons (.var 7) .nil)))) (.callk 36 [2, 1, 0] .nil (.cons (.var 7) (.cons (.var 1) (.cons (.var 0) .nil))))) (.cons (.idx (.var 5) (.var 7)) .nil)))) (.seq (.ret (.con (.bl false))) .nil) .nil) .nil)) (.seq (.set (.nm 8) (.tup (.cons (.comp false (.nm 7) [7] (.irange1 (.blt .len false (.cons (.var 5) .nil))) (.cmp .eq (.idx (.var 5) (.var 7)) (.var 4)) (.var 7)) (.cons (.cmp .eq (.var 4) (.var 1)) .nil)))) (.seq (.set (.nm 9) (.comp false (.nm 12) [12] (.iseq (.var 0)) .yes (.call 57 (.cons (.var 12) .nil)))) (.seq (.set (.nm 10) (.idx (.call 53 (.cons (.var 9) .nil)) (.neg (.con (.int 1))))) (.seq (.ite (.cmp .ne (.var 8) (.tup (.cons (.comp false (.nm 7) [7] (.irange1 (.blt .len false (.cons (.var 9) .nil))) (.and (.cmp .eq (.idx (.var 9) (.var 7)) (.var 10)) (.one (.not (.call 51 (.cons (.var 10) (.cons (.var 1) .nil)))))) (.var 7)) (.cons (.not (.call 51 (.cons (.var 1) (.cons (.var 10) .nil)))) .nil)))) (.seq (.ret (.con (.bl false))) .nil) .nil) (.seq (.set (.nm 11) (.ite (.cmp .eq (.var 2) (.con (.int 0))) (.call 37 (.cons (.var 0) (.cons (.var 1) .nil))) (.callk 37 [1, 0] .nil (.cons (.var 1) (.cons (.var 0) .nil))))) (.seq (.ite (.not (.call 45 (.cons (.var 11) (.cons (.var 8) .nil)))) (.seq (.ret (.con (.bl false))) .nil) .nil) (.seq (.expr (.mth .append false (.idx (.var 11) (.con (.int 0))) (.cons (.con (.str "more")) .nil))) (.seq (.ret (.call 45 (.cons (.call 19 (.cons (.call 23 (.cons (.comp false (.nm 12) [12] (.iseq (.var 0)) .yes (.call 32 (.cons (.var 12) .nil))) .nil)) (.cons (.var 1) .nil))) (.cons (.var 4) .nil)))) .nil)))))))))))))
abbrev i__law_list_right : Nat := 63
abbrev N63 : List Str := ["costlies", "offer", "turn", "values", "due", "rows", "told", "k", "right", "reserves", "most", "found", "costly"]
abbrev P63 : List Str := ["costlies", "offer", "turn"]
abbrev s63 : Stmt := topS 81
/-- _law_single_right -/
def b__law_single_right : DL.S := (.seq (.set (.cons (.nm 2) (.cons (.nm 3) .nil)) (.var 0)) (.seq (.set (.nm 4) (.call 57 (.cons (.var 0) .nil))) (.seq (.ite (.or (.cmp .ne (.call 56 (.cons (.var 3) (.cons (.var 4) .nil))) (.var 2)) (.one (.not (.call 45 (.cons (.ite (.cmp .eq (.var 1) (.con (.int 0))) (.call 29 (.cons (.var 0) .nil)) (.callk 29 [0] .nil (.cons (.var 0) .nil))) (.cons (.var 4) .nil)))))) (.seq (.ret (.con (.bl false))) .nil) .nil) (.seq (.ret (.call 45 (.cons (.lis false (.cons (.ite (.cmp .eq (.var 1) (.con (.int 0))) (.call 32 (.cons (.var 0) .nil)) (.callk 32 [0] .nil (.cons (.var 0) .nil))) (.cons (.call 25 (.cons (.var 0) .nil)) .nil))) (.cons (.lis false (.cons (.call 58 (.cons (.var 0) .nil)) (.cons (.con (.bl true)) .nil))) .nil)))) .nil))))
abbrev i__law_single_right : Nat := 64
abbrev N64 : List Str := ["costly", "turn", "cost", "some", "due"]
abbrev P64 : List Str := ["costly", "turn"]
abbrev s64 : Stmt := topS 82
/-- _law_harm_right -/
def b__law_harm_right : DL.S := (.seq (.set (.cons (.nm 6) (.cons (.nm 7) .nil)) (.tup (.cons (.call 58 (.cons (.var 1) .nil)) (.cons (.call 58 (.cons (.var 2) .nil)) .nil)))) (.seq (.setc 8 (.comp false (.cons (.nm 14) (.cons (.nm 15) .nil)) [14, 15] (.iseq (.op .add false (.var 6) (.var 7))) .yes (.var 14))) (.seq (.set (.nm 9) (.idx (.call 53 (.cons (.comp false (.nm 16) [16] (.iseq (.var 8)) .yes (.call 48 (.cons (.call 55 (.cons (.var 6) (.cons (.var 16) .nil))) (.cons (.call 55 (.cons (.var 7) (.cons (.var 16) .nil))) .nil)))) .nil)) (.neg (.con (.int 1))))) (.seq (.set (.nm 10) (.ite (.cmp .eq (.var 5) (.con (.int 0))) (.call 40 (.cons (.var 1) (.cons (.var 2) .nil))) (.callk 40 [1, 0] .nil (.cons (.var 2) (.cons (.var 1) .nil))))) (.seq (.ite (.or (.not (.isi (.var 10) [.tuple])) (.or (.cmp .ne (.blt .len false (.cons (.var 10) .nil)) (.con (.int 2))) (.or (.not (.call 45 (.cons (.idx (.var 10) (.con (.int 0))) (.cons (.var 9) .nil)))) (.one (.not (.call 45 (.cons (.call 41 (.cons (.var 1) (.cons (.var 2) (.cons (.var 10) .nil)))) (.cons (.con (.bl true)) .nil)))))))) (.seq (.ret (.con (.bl false))) .nil) .nil) (.seq (.ite (.cmp .ne (.call 48 (.cons (.idx (.call 59 (.cons (.lis false (.cons (.var 1) .nil)) (.cons (.idx (.var 10) (.con (.int 1))) .nil))) (.tup (.cons (.con (.int 0)) (.cons (.idx (.var 10) (.con (.int 1))) .nil)))) (.cons (.idx (.call 59 (.cons (.lis false (.cons (.var 2) .nil)) (.cons (.idx (.var 10) (.con (.int 1))) .nil))) (.tup (.cons (.con (.int 0)) (.cons (.idx (.var 10) (.con (.int 1))) .nil)))) .nil))) (.var 9)) (.seq (.ret (.con (.bl false))) .nil) .nil) (.seq (.ite (.not (.call 45 (.cons (.call 41 (.cons (.var 1) (.cons (.var 2) (.cons (.tup (.cons (.call 47 (.cons (.var 9) (.cons (.tup (.cons (.con (.int 1)) (.cons (.con (.int 3)) .nil))) .nil))) (.cons (.idx (.var 10) (.con (.int 1))) .nil))) .nil)))) (.cons (.con (.bl false)) .nil)))) (.seq (.ret (.con (.bl false))) .nil) .nil) (.seq (.for_ (.nm 11) (.iseq (.var 4)) (.seq (.set (.nm 12) (.call 48 (.cons (.idx (.call 59 (.cons (.op .add false (.lis false (.cons (.var 1) .nil)) (.var 3)) (.cons (.var 11) .nil))) (.tup (.cons (.con (.int 0)) (.cons (.var 11) .nil)))) (.cons (.idx (.call 59 (.cons (.op .add false (.lis false (.cons (.var 2) .nil)) (.var 3)) (.cons (.var 11) .nil))) (.tup (.cons (.con (.int 0)) (.cons (.var 11) .nil)))) .nil)))) (.seq (.ite (.or (.call 51 (.cons (.var 9) (.cons (.var 12) .nil))) (.one (.cmp .ne (.var 12) (.call 48 (.cons (.call 35 (.cons (.op .add false (.lis false (.cons (.var 1) .nil)) (.var 3)) (.cons (.var 11) .nil))) (.cons (.call 35 (.cons (.op .add false (.lis false (.cons (.var 2) .nil)) (.var 3)) (.cons (.var 11) .nil))) .nil)))))) (.seq (.ret (.con (.bl false))) .nil) .nil) (.seq (.set (.nm 13) (.call 48 (.cons (.call 55 (.cons (.var 6) (.cons (.var 11) .nil))) (.cons (.call 55 (.cons (.var 7) (.cons (.var 11) .nil))) .nil)))) (.seq (.ite (.not (.call 45 (.cons (.callk 41 [2, 1, 0] .nil (.cons (.tup (.cons (.var 9) (.cons (.var 11) .nil))) (.cons (.var 2) (.cons (.var 1) .nil)))) (.cons (.cmp .eq (.var 13) (.var 9)) .nil)))) (.seq (.ret (.con (.bl false))) .nil) .nil) .nil))))) (.seq (.ret (.con (.bl true))) .nil)))))))))
abbrev i__law_harm_right : Nat := 65
abbrev N65 : List Str := ["box", "old", "new", "others", "offers", "turn", "one", "other", "marks", "due", "told", "offer", "falls", "alone", "draw", "chance", "mark"]
abbrev P65 : List Str := ["box", "old", "new", "others", "offers", "turn"]
abbrev s65 : Stmt := topS 83
/-- _law_cell_right -/
def b__law_cell_right : DL.S := (.seq (.set (.cons (.nm 1) (.cons (.nm 2) .nil)) (.tup (.cons (.call 44 (.cons (.var 0) (.cons (.con (.int 2)) .nil))) (.cons (.idx (.lis false (.cons (.con (.int 1)) (.cons (.con (.int 1)) (.cons (.op .pow false (.con (.int 10)) (.con (.int 20))) .nil)))) (.call 44 (.cons (.var 0) (.cons (.con (.int 3)) .nil)))) .nil)))) (.seq (.setc 3 (.comp true (.nm 12) [12] (.irange1 (.op .add false (.con (.int 1)) (.call 44 (.cons (.var 0) (.cons (.con (.int 3)) .nil))))) .yes (.call 62 (.cons (.var 0) (.cons (.var 2) .nil))))) (.seq (.ite (.and (.cmp .gt (.blt .len false (.cons (.var 3) .nil)) (.con (.int 1))) (.one (.cmp .eq (.call 44 (.cons (.var 0) (.cons (.con (.int 4)) .nil))) (.con (.int 0))))) (.seq (.put (.var 3) (.neg (.con (.int 1))) (.idx (.var 3) (.con (.int 0)))) .nil) .nil) (.seq (.set (.nm 4) (.call 53 (.cons (.comp false (.nm 6) [6] (.iseq (.var 3)) .yes (.call 57 (.cons (.var 6) .nil))) .nil))) (.seq (.set (.nm 5) (.op .add false (.var 4) (.lis false (.cons (.call 46 (.cons (.op .mul false (.op .sub false (.call 44 (.cons (.var 0) (.cons (.con (.int 9)) .nil))) (.con (.int 3))) (.var 2)) (.cons (.con (.int 2)) .nil))) (.cons (.call 48 (.cons (.idx (.var 4) (.con (.int 0))) (.cons (.tup (.cons (.op .mul false (.con (.int 9)) (.var 2)) (.cons (.con (.int 1)) .nil))) .nil))) (.cons (.call 47 (.cons (.idx (.var 4) (.neg (.con (.int 1)))) (.cons (.tup (.cons (.con (.int 1)) (.cons (.con (.int 2)) .nil))) .nil))) (.cons (.idx (.idx (.idx (.idx (.var 3) (.con (.int 0))) (.con (.int 1))) (.con (.int 0))) (.con (.int 0))) .nil))))))) (.seq (.setc 5 (.comp false (.nm 7) [7] (.iseq (.var 5)) (.cmp .lt (.blt .max2 false (.cons (.blt .abs false (.cons (.idx (.var 7) (.con (.int 0))) .nil)) (.cons (.idx (.var 7) (.con (.int 1))) .nil))) (.op .pow false (.con (.int 10)) (.con (.int 40)))) (.var 7))) (.seq (.for_ (.nm 6) (.iseq (.var 3)) (.seq (.ite (.not (.call 64 (.cons (.var 6) (.cons (.var 1) .nil)))) (.seq (.ret (.con (.bl false))) .nil) .nil) .nil)) (.seq (.for_ (.nm 7) (.iseq (.var 5)) (.seq (.ite (.not (.call 63 (.cons (.var 3) (.cons (.var 7) (.cons (.var 1) .nil))))) (.seq (.ret (.con (.bl false))) .nil) .nil) (.seq (.set (.nm 1) (.op .sub false (.con (.int 1)) (.var 1))) .nil))) (.seq (.par [8, 9] (.cons (.idx (.var 3) (.con (.int 0))) (.cons (.idx (.idx (.var 3) (.con (.int 0))) (.con (.int 0))) .nil))) (.seq (.set (.nm 10) (.call 62 (.cons (.var 0) (.cons (.var 2) .nil)))) (.seq (.set (.nm 11) (.idx (.lis false (.cons (.var 10) (.cons (.tup (.cons (.call 47 (.cons (.var 9) (.cons (.call 46 (.cons (.var 2) (.cons (.con (.int 2)) .nil))) .nil))) (.cons (.idx (.var 8) (.con (.int 1))) .nil))) (.cons (.tup (.cons (.call 46 (.cons (.idx (.var 9) (.con (.int 0))) (.cons (.op .mul false (.con (.int 2)) (.idx (.var 9) (.con (.int 1)))) .nil))) (.cons (.idx (.var 8) (.con (.int 1))) .nil))) (.cons (.tup (.cons (.var 9) (.cons (.idx (.var 10) (.con (.int 1))) .nil))) .nil))))) (.call 44 (.cons (.var 0) (.cons (.con (.int 4)) .nil))))) (.seq (.ret (.and (.call 65 (.cons (.var 0) (.cons (.var 8) (.cons (.var 11) (.cons (.sli false (.var 3) (.cons (.con (.int 1)) .nil) .nil) (.cons (.sli false (.var 5) .nil (.cons (.con (.int 3)) .nil)) (.cons (.var 1) .nil))))))) (.one (.call 65 (.cons (.var 0) (.cons (.var 11) (.cons (.var 8) (.cons (.sli false (.var 3) (.cons (.con (.int 1)) .nil) .nil) (.cons (.sli false (.var 5) .nil (.cons (.con (.int 3)) .nil)) (.cons (.op .sub false (.con (.int 1)) (.var 1)) .nil)))))))))) .nil))))))))))))
abbrev i__law_cell_right : Nat := 66
abbrev N66 : List Str := ["box", "turn", "unit", "costlies", "reserves", "offers", "costly", "offer", "old", "cost", "drawn", "new", "k"]
abbrev P66 : List Str := ["box"]
abbrev s66 : Stmt := topS 84
/-- law -/
def b_law : DL.S := (.seq (.for_ (.nm 1) (.irange1 (.blt .max2 false (.cons (.con (.int 2)) (.cons (.blt .min2 false (.cons (.con (.int 3)) (.cons (.blt .len false (.cons (.var 0) .nil)) .nil))) .nil)))) (.seq (.ite (.not (.call 66 (.cons (.call 43 (.cons (.call 42 (.cons (.var 0) (.cons (.var 1) .nil))) .nil)) .nil))) (.seq (.ret (.con (.bl false))) .nil) .nil) .nil)) (.seq (.ret (.con (.bl true))) .nil))
abbrev i_law : Nat := 67
abbrev N67 : List Str := ["script", "k"]
abbrev P67 : List Str := ["script"]
abbrev s67 : Stmt := topS 85
def tab : DL.Tab where
  fn := ("is_integer" : Str) :: ("is_index" : Str) :: ("is_list" : Str) :: ("is_tuple" : Str) :: ("reduced" : Str) :: ("is_fraction" : Str) :: ("add" : Str) :: ("subtract" : Str) :: ("multiply" : Str) :: ("divide" : Str) :: ("is_below" : Str) :: ("greater_of" : Str) :: ("greatest" : Str) :: ("sum_of" : Str) :: ("ascending" : Str) :: ("is_box_row" : Str) :: ("is_box" : Str) :: ("check_box" : Str) :: ("drawn_by" : Str) :: ("drawn_beside" : Str) :: ("at_most" : Str) :: ("product_of" : Str) :: ("greatest_of" : Str) :: ("greatest_draw" : Str) :: ("places_of" : Str) :: ("is_costly_box" : Str) :: ("check_costly" : Str) :: ("beyond" : Str) :: ("reserve_of" : Str) :: ("reserve" : Str) :: ("capped_by" : Str) :: ("capped_of" : Str) :: ("capped" : Str) :: ("check_opening" : Str) :: ("opened_by" : Str) :: ("opening_worth" : Str) :: ("worth_if_opened" : Str) :: ("right_openings" : Str) :: ("fall_at" : Str) :: ("opening_harm_of" : Str) :: ("opening_harm" : Str) :: ("is_opening_harm" : Str) :: ("_law_cell" : Str) :: ("_law_box" : Str) :: ("_law_take" : Str) :: ("_law_same" : Str) :: ("_law_low" : Str) :: ("_law_plus" : Str) :: ("_law_minus" : Str) :: ("_law_times" : Str) :: ("_law_over" : Str) :: ("_law_less" : Str) :: ("_law_total" : Str) :: ("_law_in_order" : Str) :: ("_law_greater" : Str) :: ("_law_drawn" : Str) :: ("_law_beyond" : Str) :: ("_law_reserve" : Str) :: ("_law_capped" : Str) :: ("_law_opened" : Str) :: ("_law_open" : Str) :: ("_law_box_drawn" : Str) :: ("_law_costly" : Str) :: ("_law_list_right" : Str) :: ("_law_single_right" : Str) :: ("_law_harm_right" : Str) :: ("_law_cell_right" : Str) :: ("law" : Str) :: []
  ps := P0 :: P1 :: P2 :: P3 :: P4 :: P5 :: P6 :: P7 :: P8 :: P9 :: P10 :: P11 :: P12 :: P13 :: P14 :: P15 :: P16 :: P17 :: P18 :: P19 :: P20 :: P21 :: P22 :: P23 :: P24 :: P25 :: P26 :: P27 :: P28 :: P29 :: P30 :: P31 :: P32 :: P33 :: P34 :: P35 :: P36 :: P37 :: P38 :: P39 :: P40 :: P41 :: P42 :: P43 :: P44 :: P45 :: P46 :: P47 :: P48 :: P49 :: P50 :: P51 :: P52 :: P53 :: P54 :: P55 :: P56 :: P57 :: P58 :: P59 :: P60 :: P61 :: P62 :: P63 :: P64 :: P65 :: P66 :: P67 :: []
  go := [("ZERO", .tup [.int 0, .int 1]), ("ONE", .tup [.int 1, .int 1]), ("MOST_WORTHS", .int 32), ("MOST_BOXES", .int 4), ("MOST_COSTLY", .int 4)]
  bl := ["abs", "all", "bool", "enumerate", "int", "isinstance", "len", "list", "max", "min", "range", "set", "sorted", "str", "sum", "tuple"]
  gcd := "gcd"
  kw := [(37, 0, ["offer", "costlies"], [1, 0]), (36, 0, ["position", "offer", "costlies"], [2, 1, 0]), (35, 0, ["offer", "costlies"], [1, 0]), (32, 0, ["costly"], [0]), (29, 0, ["costly"], [0]), (41, 0, ["value", "new", "old"], [2, 1, 0]), (40, 0, ["new", "old"], [1, 0])]
def defs : List DL.Df := ⟨1, 1, true, b_is_integer⟩ :: ⟨2, 2, true, b_is_index⟩ :: ⟨1, 1, true, b_is_list⟩ :: ⟨2, 2, true, b_is_tuple⟩ :: ⟨2, 3, true, b_reduced⟩ :: ⟨1, 2, true, b_is_fraction⟩ :: ⟨2, 2, true, b_add⟩ :: ⟨2, 2, true, b_subtract⟩ :: ⟨2, 2, true, b_multiply⟩ :: ⟨2, 2, true, b_divide⟩ :: ⟨2, 2, true, b_is_below⟩ :: ⟨2, 2, true, b_greater_of⟩ :: ⟨1, 3, true, b_greatest⟩ :: ⟨1, 3, true, b_sum_of⟩ :: ⟨1, 5, true, b_ascending⟩ :: ⟨1, 1, true, b_is_box_row⟩ :: ⟨1, 5, true, b_is_box⟩ :: ⟨1, 1, true, b_check_box⟩ :: ⟨2, 4, true, b_drawn_by⟩ :: ⟨2, 2, true, b_drawn_beside⟩ :: ⟨2, 4, true, b_at_most⟩ :: ⟨1, 3, true, b_product_of⟩ :: ⟨1, 7, true, b_greatest_of⟩ :: ⟨1, 3, true, b_greatest_draw⟩ :: ⟨2, 4, false, b_places_of⟩ :: ⟨1, 1, true, b_is_costly_box⟩ :: ⟨1, 1, true, b_check_costly⟩ :: ⟨2, 2, true, b_beyond⟩ :: ⟨1, 7, true, b_reserve_of⟩ :: ⟨1, 1, true, b_reserve⟩ :: ⟨2, 6, true, b_capped_by⟩ :: ⟨1, 1, true, b_capped_of⟩ :: ⟨1, 1, true, b_capped⟩ :: ⟨2, 3, true, b_check_opening⟩ :: ⟨2, 3, true, b_opened_by⟩ :: ⟨2, 2, true, b_opening_worth⟩ :: ⟨3, 11, true, b_worth_if_opened⟩ :: ⟨2, 5, false, b_right_openings⟩ :: ⟨3, 3, true, b_fall_at⟩ :: ⟨2, 9, true, b_opening_harm_of⟩ :: ⟨2, 2, true, b_opening_harm⟩ :: ⟨3, 3, true, b_is_opening_harm⟩ :: ⟨2, 2, true, b__law_cell⟩ :: ⟨1, 1, false, b__law_box⟩ :: ⟨2, 4, true, b__law_take⟩ :: ⟨2, 3, true, b__law_same⟩ :: ⟨2, 4, true, b__law_low⟩ :: ⟨2, 2, true, b__law_plus⟩ :: ⟨2, 2, true, b__law_minus⟩ :: ⟨2, 2, true, b__law_times⟩ :: ⟨2, 2, true, b__law_over⟩ :: ⟨2, 2, true, b__law_less⟩ :: ⟨1, 3, true, b__law_total⟩ :: ⟨1, 5, true, b__law_in_order⟩ :: ⟨2, 2, true, b__law_greater⟩ :: ⟨2, 4, true, b__law_drawn⟩ :: ⟨2, 4, true, b__law_beyond⟩ :: ⟨1, 9, true, b__law_reserve⟩ :: ⟨1, 6, true, b__law_capped⟩ :: ⟨2, 13, false, b__law_opened⟩ :: ⟨5, 10, true, b__law_open⟩ :: ⟨2, 6, true, b__law_box_drawn⟩ :: ⟨2, 2, true, b__law_costly⟩ :: ⟨3, 13, true, b__law_list_right⟩ :: ⟨2, 5, true, b__law_single_right⟩ :: ⟨6, 17, true, b__law_harm_right⟩ :: ⟨1, 13, true, b__law_cell_right⟩ :: ⟨1, 2, true, b_law⟩ :: []

end X

set_option maxRecDepth 100000
namespace X
open DL PySem
/-! ### fractions -/
def fr (q : Rat) : D := .tup [.int q.num, .int q.den]
theorem fr_inj {x y : Rat} : fr x = fr y ↔ x = y := by
  constructor
  · intro h
    unfold fr at h
    injection h with h
    injection h with h1 h2
    injection h2 with h2 _
    injection h1 with h1
    injection h2 with h2
    exact Rat.ext h1 (by exact_mod_cast h2)
  · intro h; rw [h]
/-- small enough to be worked with -/
def Ok (q : Rat) : Prop := q.den.log2 < 4000 ∧ q.num.natAbs.log2 < 200000
theorem log2_mono {a b : Nat} (h : a ≤ b) : a.log2 ≤ b.log2 := by
  by_cases ha : a = 0
  · subst ha; simp
  · have hb : b ≠ 0 := by omega
    rw [Nat.le_log2 hb]
    exact Nat.le_trans (Nat.log2_self_le ha) h
theorem log2_mul (a b : Nat) : (a * b).log2 ≤ a.log2 + b.log2 + 1 := by
  by_cases h : a * b = 0
  · rw [h]; simp
  · have h1 : a < 2 ^ (a.log2 + 1) := Nat.lt_log2_self
    have h2 : b < 2 ^ (b.log2 + 1) := Nat.lt_log2_self
    have h3 : a * b < 2 ^ (a.log2 + b.log2 + 2) := by
      have : a * b < 2 ^ (a.log2 + 1) * 2 ^ (b.log2 + 1) := Nat.mul_lt_mul'' h1 h2
      rw [← Nat.pow_add] at this
      rwa [show a.log2 + 1 + (b.log2 + 1) = a.log2 + b.log2 + 2 by omega] at this
    have := (Nat.log2_lt h).mpr h3
    omega
theorem pu_reduced {n b : Int} {d : Nat} (e : b = d) (hd : 0 < d) (hl : d.log2 < 9000) : Pu defs 1 i_reduced [.int n, .int b] (fr (mkRat n d)) := by
  subst e
  refine Pu.mk (df := ⟨2, 3, true, b_reduced⟩) rfl ⟨rfl, by decide⟩ fun k M hk => ?_
  have h0 : ¬ ((d : Int) < 0) := by omega
  have hg : 0 < n.natAbs.gcd d := Nat.gcd_pos_of_pos_right _ hd
  have h1 : divB (n.natAbs.gcd d : Nat) = true := by
    unfold divB
    rw [Bool.and_eq_true, decide_eq_true_eq, decide_eq_true_eq]
    refine ⟨by omega, ?_⟩
    have := log2_mono (Nat.gcd_le_right n.natAbs hd)
    simp only [Int.natAbs_natCast]; omega
  have e1 : fr (mkRat n d) = .tup [.int (n / (n.natAbs.gcd d : Nat)), .int ((d : Int) / (n.natAbs.gcd d : Nat))] := by
    unfold fr
    rw [Rat.num_mkRat, Rat.den_mkRat, if_neg (by omega), if_neg (by omega), Nat.gcd_comm]
    simp
  rw [e1]
  simp [b_reduced, List.replicate, h0, h1]
theorem Ok.d {q : Rat} (h : Ok q) : q.den.log2 < 4000 := h.1
theorem Ok.n {q : Rat} (h : Ok q) : q.num.natAbs.log2 < 200000 := h.2
theorem mulB_ok {i j : Int} (h1 : i.natAbs.log2 < 400000) (h2 : j.natAbs.log2 < 400000) : mulB i j = true := by
  unfold mulB; rw [decide_eq_true_eq]; omega
theorem Ok.nd {x y : Rat} (hx : Ok x) (hy : Ok y) : mulB x.num y.den = true := mulB_ok (by have := hx.n; omega) (by have := hy.d; simp; omega)
theorem Ok.dd {x y : Rat} (hx : Ok x) (hy : Ok y) : mulB x.den y.den = true := mulB_ok (by have := hx.d; simp; omega) (by have := hy.d; simp; omega)
theorem Ok.nn {x y : Rat} (hx : Ok x) (hy : Ok y) : mulB x.num y.num = true := mulB_ok (by have := hx.n; omega) (by have := hy.n; omega)
theorem Ok.dn {x y : Rat} (hx : Ok x) (hy : Ok y) : mulB x.den y.num = true := mulB_ok (by have := hx.d; simp; omega) (by have := hy.n; omega)
theorem Ok.ddl {x y : Rat} (hx : Ok x) (hy : Ok y) : (x.den * y.den).log2 < 9000 := by
  have := log2_mul x.den y.den
  have := hx.d
  have := hy.d
  omega
theorem den_pos2 (x y : Rat) : 0 < x.den * y.den := Nat.mul_pos x.den_pos y.den_pos
theorem pu_add {x y : Rat} (hx : Ok x) (hy : Ok y) : Pu defs 2 i_add [fr x, fr y] (fr (x + y)) := by
  refine Pu.mk (df := ⟨2, 2, true, b_add⟩) rfl ⟨rfl, by decide⟩ fun k M hk => ?_
  rw [Rat.add_def']
  simp [b_add, List.replicate, fr, hx.nd hy, hy.nd hx, hx.dd hy]
  rw [(pu_reduced (d := x.den * y.den) (by simp) (den_pos2 x y) (hx.ddl hy)).at _ hk]
  simp
  rfl
theorem pu_subtract {x y : Rat} (hx : Ok x) (hy : Ok y) : Pu defs 2 i_subtract [fr x, fr y] (fr (x - y)) := by
  refine Pu.mk (df := ⟨2, 2, true, b_subtract⟩) rfl ⟨rfl, by decide⟩ fun k M hk => ?_
  rw [Rat.sub_def']
  simp [b_subtract, List.replicate, fr, hx.nd hy, hy.nd hx, hx.dd hy]
  rw [(pu_reduced (d := x.den * y.den) (by simp) (den_pos2 x y) (hx.ddl hy)).at _ hk]
  simp
  rfl
theorem pu_multiply {x y : Rat} (hx : Ok x) (hy : Ok y) : Pu defs 2 i_multiply [fr x, fr y] (fr (x * y)) := by
  refine Pu.mk (df := ⟨2, 2, true, b_multiply⟩) rfl ⟨rfl, by decide⟩ fun k M hk => ?_
  rw [Rat.mul_def']
  simp [b_multiply, List.replicate, fr, hx.nn hy, hx.dd hy]
  rw [(pu_reduced (d := x.den * y.den) (by simp) (den_pos2 x y) (hx.ddl hy)).at _ hk]
  simp
  rfl
/-- a divisor -/
structure Dv (y : Rat) : Prop where
  ok : Ok y
  pos : 0 < y
  num : y.num.natAbs.log2 < 4000
theorem num_pos {y : Rat} (h : 0 < y) : 0 < y.num := by
  rw [Rat.lt_iff] at h; simpa using h
theorem div_mk {x y : Rat} (h : 0 < y) : x / y = mkRat (x.num * y.den) (x.den * y.num.natAbs) := by
  have hp := num_pos h
  rw [Rat.div_def, Rat.mul_def', Rat.num_inv, Rat.den_inv, if_neg (by omega), Int.sign_eq_one_of_pos hp, Int.one_mul]
theorem pu_divide {x y : Rat} (hx : Ok x) (hy : Dv y) : Pu defs 2 i_divide [fr x, fr y] (fr (x / y)) := by
  refine Pu.mk (df := ⟨2, 2, true, b_divide⟩) rfl ⟨rfl, by decide⟩ fun k M hk => ?_
  have hp := num_pos hy.pos
  rw [div_mk hy.pos]
  simp [b_divide, List.replicate, fr, hx.nd hy.ok, hx.dn hy.ok]
  rw [(pu_reduced (d := x.den * y.num.natAbs) (by rw [Int.natCast_mul, Int.natAbs_of_nonneg (by omega)]) (Nat.mul_pos x.den_pos (by omega)) (by
    have := log2_mul x.den y.num.natAbs
    have := hx.d
    have := hy.num
    omega)).at _ hk]
  simp
  rfl
theorem pu_is_below {x y : Rat} (hx : Ok x) (hy : Ok y) : Pu defs 1 i_is_below [fr x, fr y] (.bl (decide (x < y))) := by
  refine Pu.mk (df := ⟨2, 2, true, b_is_below⟩) rfl ⟨rfl, by decide⟩ fun k M hk => ?_
  simp [b_is_below, List.replicate, fr, hx.nd hy, hy.nd hx, Rat.lt_iff]
def gt (x y : Rat) : Rat := if x < y then y else x
theorem pu_greater_of {x y : Rat} (hx : Ok x) (hy : Ok y) : Pu defs 2 i_greater_of [fr x, fr y] (fr (gt x y)) := by
  refine Pu.mk (df := ⟨2, 2, true, b_greater_of⟩) rfl ⟨rfl, by decide⟩ fun k M hk => ?_
  simp only [b_greater_of, List.replicate, ex_seq, ex_ret, ev_ite, et_call, ev_call, es_cons, ev_var, lk_zero, lk_succ, List.map, List.cons_append, List.nil_append, Option.bind_some, kCs1_ap, es_nil, kCs2_ap, kCall_ap]
  rw [(pu_is_below hx hy).at _ hk]
  by_cases h : x < y <;> simp [h, gt]
theorem gt_ok {x y : Rat} (hx : Ok x) (hy : Ok y) : Ok (gt x y) := by
  unfold gt; split <;> assumption
/-! ### the law's own -/
theorem euclid {call : CallF} {x y : Option D} {M : Mm} : ∀ (n a b f : Nat), b < 2 ^ n → 2 * n + 1 ≤ f →
    whileGo (evT call (.cmp .ne (.var 3) (.con (.int 0)))) (exS call (.seq (.par [2, 3] (.cons (.var 3) (.cons (.op .mod false (.blt .int false (.cons (.var 2) .nil)) (.var 3)) .nil))) .nil)) f [x, y, some (.int a), some (.int b)] M
      = some (.nx, [x, y, some (.int (Nat.gcd a b : Nat)), some (.int 0)], M) := by
  have step : ∀ (a b f : Nat), 0 < b → whileGo (evT call (.cmp .ne (.var 3) (.con (.int 0)))) (exS call (.seq (.par [2, 3] (.cons (.var 3) (.cons (.op .mod false (.blt .int false (.cons (.var 2) .nil)) (.var 3)) .nil))) .nil)) (f + 1) [x, y, some (.int a), some (.int b)] M =
      whileGo (evT call (.cmp .ne (.var 3) (.con (.int 0)))) (exS call (.seq (.par [2, 3] (.cons (.var 3) (.cons (.op .mod false (.blt .int false (.cons (.var 2) .nil)) (.var 3)) .nil))) .nil)) f [x, y, some (.int b), some (.int (a % b : Nat))] M := by
    intro a b f hb
    have h0 : ¬ ((b : Int) = 0) := by omega
    have h1 : (0 : Int) < (b : Int) := by omega
    rw [whileGo]
    have h2 : ¬ b = 0 := by omega
    simp [h2, hb]
  have stop : ∀ (a f : Nat), whileGo (evT call (.cmp .ne (.var 3) (.con (.int 0)))) (exS call (.seq (.par [2, 3] (.cons (.var 3) (.cons (.op .mod false (.blt .int false (.cons (.var 2) .nil)) (.var 3)) .nil))) .nil)) (f + 1) [x, y, some (.int a), some (.int (0 : Nat))] M =
      some (.nx, [x, y, some (.int a), some (.int 0)], M) := by
    intro a f
    rw [whileGo]
    simp
  intro n
  induction n with
  | zero =>
    intro a b f hb hf
    have : b = 0 := by simpa using hb
    subst this
    obtain ⟨f, rfl⟩ : ∃ g, f = g + 1 := ⟨f - 1, by omega⟩
    rw [stop]; simp
  | succ n ih =>
    intro a b f hb hf
    by_cases h : b = 0
    · subst h
      obtain ⟨f, rfl⟩ : ∃ g, f = g + 1 := ⟨f - 1, by omega⟩
      rw [stop]; simp
    · obtain ⟨f, rfl⟩ : ∃ g, f = g + 1 := ⟨f - 1, by omega⟩
      rw [step a b f (by omega)]
      have e1 : Nat.gcd a b = Nat.gcd b (a % b) := by rw [Nat.gcd_comm a b, Nat.gcd_rec b a, Nat.gcd_comm]
      rw [e1]
      have hr : a % b < b := Nat.mod_lt _ (by omega)
      by_cases h2 : a % b = 0
      · obtain ⟨f, rfl⟩ : ∃ g, f = g + 1 := ⟨f - 1, by omega⟩
        rw [h2, stop]; simp
      · obtain ⟨f, rfl⟩ : ∃ g, f = g + 1 := ⟨f - 1, by omega⟩
        rw [step b (a % b) f (by omega)]
        have e2 : Nat.gcd b (a % b) = Nat.gcd (a % b) (b % (a % b)) := by rw [Nat.gcd_comm b, Nat.gcd_rec (a % b) b, Nat.gcd_comm]
        rw [e2]
        refine ih _ _ _ ?_ (by omega)
        have q1 : b % (a % b) < a % b := Nat.mod_lt _ (by omega)
        have q2 := Nat.div_add_mod b (a % b)
        have q3 : 1 ≤ b / (a % b) := (Nat.one_le_div_iff (by omega)).mpr (by omega)
        have q4 : a % b ≤ (a % b) * (b / (a % b)) := Nat.le_mul_of_pos_right _ (by omega)
        rw [Nat.pow_succ] at hb
        omega
theorem pu_law_low {n b : Int} {d : Nat} (e : b = d) (hd : 0 < d) (hl : d.log2 < 9000) : Pu defs 1 i__law_low [.int n, .int b] (fr (mkRat n d)) := by
  subst e
  refine Pu.mk (df := ⟨2, 4, true, b__law_low⟩) rfl ⟨rfl, by decide⟩ fun k M hk => ?_
  have h0 : ¬ ((d : Int) < 0) := by omega
  have h3 : (0 : Int) < d := by omega
  have hg : 0 < n.natAbs.gcd d := Nat.gcd_pos_of_pos_right _ hd
  have h1 : divB (n.natAbs.gcd d : Nat) = true := by
    unfold divB
    rw [Bool.and_eq_true, decide_eq_true_eq, decide_eq_true_eq]
    refine ⟨by omega, ?_⟩
    have := log2_mono (Nat.gcd_le_right n.natAbs hd)
    simp only [Int.natAbs_natCast]; omega
  have e1 : fr (mkRat n d) = .tup [.int (n / (n.natAbs.gcd d : Nat)), .int ((d : Int) / (n.natAbs.gcd d : Nat))] := by
    unfold fr
    rw [Rat.num_mkRat, Rat.den_mkRat, if_neg (by omega), if_neg (by omega), Nat.gcd_comm]
    simp
  have ea : (if n < 0 then -n else n) = (n.natAbs : Int) := by split <;> omega
  have run := euclid (call := callN defs k) (x := some (.int n)) (y := some (.int d)) (M := M) (d.log2 + 1) n.natAbs d wfuel Nat.lt_log2_self (by
    have : (18003 : Nat) ≤ wfuel := by decide
    omega)
  rw [e1]
  simp only [b__law_low, List.replicate, List.map, List.cons_append, List.nil_append, ex_seq, ex_par, es_cons, ev_blt, ev_var, lk_zero, lk_succ, Option.bind_some, kCs1_ap, es_nil, kCs2_ap, kBlt_ap, sb_abs, ea, if_neg h0, kPar_ap, sets_cons, sets_nil, List.set, kSq_nx, ex_while]
  rw [run]
  simp [h3, h1, hd]
end X

set_option maxRecDepth 100000
namespace X
open DL PySem
/-! ### how great fractions may be: q is m / 27720^a, and at most N -/
def C0 : Nat := 27720
def In (a N : Nat) (q : Rat) : Prop := (∃ m : Int, q * ((C0 ^ a : Nat) : Rat) = (m : Rat)) ∧ -(N : Rat) ≤ q ∧ q ≤ (N : Rat)
theorem In.den {a N : Nat} {q : Rat} (h : In a N q) : q.den ≤ C0 ^ a := by
  obtain ⟨⟨m, e⟩, _⟩ := h
  have hC : 0 < C0 ^ a := Nat.pow_pos (by decide)
  have hc : ((C0 ^ a : Nat) : Rat) ≠ 0 := by
    intro z
    have : (C0 ^ a : Nat) = 0 := by exact_mod_cast z
    omega
  have : q = mkRat m (C0 ^ a) := by
    rw [Rat.mkRat_eq_div, ← e, Rat.mul_div_cancel hc]
  rw [this, Rat.den_mkRat, if_neg (by omega)]
  exact Nat.div_le_self _ _
theorem In.num {a N : Nat} {q : Rat} (h : In a N q) : q.num.natAbs ≤ N * C0 ^ a := by
  have hd := h.den
  obtain ⟨_, h1, h2⟩ := h
  rw [Rat.le_iff] at h1 h2
  simp at h1 h2
  rw [Int.neg_mul] at h1
  have : (q.num.natAbs : Int) ≤ (N : Int) * (q.den : Int) := by omega
  have h3 : q.num.natAbs ≤ N * q.den := by exact_mod_cast this
  exact Nat.le_trans h3 (Nat.mul_le_mul_left N hd)
theorem c0_log (a : Nat) : (C0 ^ a).log2 < 15 * a + 1 := by
  have h : C0 ^ a < 2 ^ (15 * a + 1) := by
    have h1 : C0 ^ a ≤ (2 ^ 15) ^ a := Nat.pow_le_pow_left (by decide) a
    rw [← Nat.pow_mul] at h1
    have h2 : 2 ^ (15 * a) < 2 ^ (15 * a + 1) := Nat.pow_lt_pow_right (by decide) (by omega)
    omega
  exact (Nat.log2_lt (by have : 0 < C0 ^ a := Nat.pow_pos (by decide); omega)).mpr h
theorem In.ok {a N : Nat} {q : Rat} (h : In a N q) (ha : a ≤ 200) (hN : N.log2 ≤ 100000) : Ok q := by
  have h1 := log2_mono h.den
  have h2 := log2_mono h.num
  have h3 := log2_mul N (C0 ^ a)
  have h4 := c0_log a
  exact ⟨by omega, by omega⟩
theorem In.mono {a N a' N' : Nat} {q : Rat} (h : In a N q) (ha : a ≤ a') (hN : N ≤ N') : In a' N' q := by
  obtain ⟨⟨m, e⟩, h1, h2⟩ := h
  have hN' : (N : Rat) ≤ (N' : Rat) := by exact_mod_cast hN
  refine ⟨⟨m * (C0 ^ (a' - a) : Nat), ?_⟩, by grind, by grind⟩
  have : C0 ^ a' = C0 ^ a * C0 ^ (a' - a) := by rw [← Nat.pow_add]; congr 1; omega
  rw [this, Rat.natCast_mul, ← Rat.mul_assoc, e, Rat.intCast_mul, Rat.intCast_natCast]
theorem In.add {a N N' : Nat} {x y : Rat} (hx : In a N x) (hy : In a N' y) : In a (N + N') (x + y) := by
  obtain ⟨⟨m, e⟩, h1, h2⟩ := hx
  obtain ⟨⟨n, e'⟩, h3, h4⟩ := hy
  refine ⟨⟨m + n, by rw [Rat.add_mul, e, e', Rat.intCast_add]⟩, ?_, ?_⟩ <;> rw [Rat.natCast_add] <;> grind
theorem In.neg {a N : Nat} {x : Rat} (hx : In a N x) : In a N (-x) := by
  obtain ⟨⟨m, e⟩, h1, h2⟩ := hx
  exact ⟨⟨-m, by rw [Rat.neg_mul, e, Rat.intCast_neg]⟩, by grind, by grind⟩
theorem In.sub {a N N' : Nat} {x y : Rat} (hx : In a N x) (hy : In a N' y) : In a (N + N') (x - y) := by
  rw [Rat.sub_eq_add_neg]; exact hx.add hy.neg
theorem In.mul {a a' N N' : Nat} {x y : Rat} (hx : In a N x) (hy : In a' N' y) : In (a + a') (N * N') (x * y) := by
  obtain ⟨⟨m, e⟩, h1, h2⟩ := hx
  obtain ⟨⟨n, e'⟩, h3, h4⟩ := hy
  have p0 : (0 : Rat) ≤ (N : Rat) := by exact_mod_cast Nat.zero_le N
  have p1 : (0 : Rat) ≤ (N' : Rat) := by exact_mod_cast Nat.zero_le N'
  refine ⟨⟨m * n, ?_⟩, ?_, ?_⟩
  · rw [Nat.pow_add, Rat.natCast_mul, Rat.intCast_mul, ← e, ← e']; grind
  · rw [Rat.natCast_mul]
    have a1 := Rat.mul_nonneg (show (0 : Rat) ≤ N + x by grind) (show (0 : Rat) ≤ N' + y by grind)
    have a2 := Rat.mul_nonneg (show (0 : Rat) ≤ N - x by grind) (show (0 : Rat) ≤ N' - y by grind)
    grind
  · rw [Rat.natCast_mul]
    have a1 := Rat.mul_nonneg (show (0 : Rat) ≤ N - x by grind) (show (0 : Rat) ≤ N' + y by grind)
    have a2 := Rat.mul_nonneg (show (0 : Rat) ≤ N + x by grind) (show (0 : Rat) ≤ N' - y by grind)
    grind
theorem In.gt {a N : Nat} {x y : Rat} (hx : In a N x) (hy : In a N y) : In a N (gt x y) := by
  unfold X.gt; split <;> assumption
theorem In.zero {a N : Nat} : In a N 0 := ⟨⟨0, by simp⟩, by
  have p0 : (0 : Rat) ≤ (N : Rat) := by exact_mod_cast Nat.zero_le N
  grind, by exact_mod_cast Nat.zero_le N⟩
theorem In.one {a N : Nat} (h : 1 ≤ N) : In a N 1 := by
  have p0 : (1 : Rat) ≤ (N : Rat) := by exact_mod_cast h
  exact ⟨⟨(C0 ^ a : Nat), by rw [Rat.one_mul, Rat.intCast_natCast]⟩, by grind, p0⟩
theorem In.sum {a N : Nat} : ∀ {xs : List Rat}, (∀ x ∈ xs, In a N x) → In a (xs.length * N) xs.sum
  | [], _ => In.zero
  | x :: xs, h => by
    rw [List.sum_cons, List.length_cons, Nat.add_mul, Nat.one_mul, Nat.add_comm]
    exact (h x List.mem_cons_self).add (In.sum fun y m => h y (List.mem_cons_of_mem _ m))
end X

set_option maxRecDepth 100000
namespace DL
open PySem
/-! ### loops over what stands -/
section
variable {body : En → Mm → Option (Fl × En × Mm)} {t : Tg} {env : En} {M : Mm} {d : D} {ds : List D}
@[simp] theorem chks_nil : chks [] M = true := rfl
def kLoop (body : En → Mm → Option (Fl × En × Mm)) (t : Tg) (src : List (Nat × List D)) (ds : List D) (r : Fl × En × Mm) : Option (Fl × En × Mm) := match r with
  | (.nx, env2, M2) => forGo body t src ds env2 M2
  | (.ct, env2, M2) => forGo body t src ds env2 M2
  | (.bk, env2, M2) => some (.nx, env2, M2)
  | (.rt v, env2, M2) => some (.rt v, env2, M2)
def kTurn (body : En → Mm → Option (Fl × En × Mm)) (t : Tg) (src : List (Nat × List D)) (ds : List D) (M : Mm) (env1 : En) : Option (Fl × En × Mm) := (body env1 M).bind (kLoop body t src ds)
@[simp] theorem for_nil : forGo body t [] [] env M = some (.nx, env, M) := rfl
theorem for_cons : forGo body t [] (d :: ds) env M = (asg t d env).bind (kTurn body t [] ds M) := rfl
@[simp] theorem kTurn_ap {src : List (Nat × List D)} : kTurn body t src ds M env = (body env M).bind (kLoop body t src ds) := rfl
@[simp] theorem kLoop_nx {src : List (Nat × List D)} : kLoop body t src ds (.nx, env, M) = forGo body t src ds env M := rfl
@[simp] theorem kLoop_ct {src : List (Nat × List D)} : kLoop body t src ds (.ct, env, M) = forGo body t src ds env M := rfl
@[simp] theorem kLoop_rt {src : List (Nat × List D)} {v : D} : kLoop body t src ds (.rt v, env, M) = some (.rt v, env, M) := rfl
theorem for_nilS {src : List (Nat × List D)} (h : chks src M = true) : forGo body t src [] env M = some (.nx, env, M) := by simp [forGo, h]
theorem for_consS {src : List (Nat × List D)} (h : chks src M = true) : forGo body t src (d :: ds) env M = (asg t d env).bind (kTurn body t src ds M) := by
  rw [forGo, if_pos h]; rfl
/-- a comprehension that changes nothing -/
theorem comp_map {α : Type} {cond : En → Mm → Option (Bool × Mm)} {elt : En → Mm → Option (D × Mm)} {src : List (Nat × List D)} (hs : chks src M = true) (g f : α → D) (p : α → Bool) : ∀ (xs : List α) (acc : List D), (∀ x ∈ xs, ∃ env1, asg t (g x) env = some env1 ∧ cond env1 M = some (p x, M) ∧ (p x = true → elt env1 M = some (f x, M))) →
    compGo cond elt t src env (xs.map g) acc M = some (acc ++ (xs.filter p).map f, M)
  | [], acc, _ => by simp [compGo, hs]
  | x :: xs, acc, h => by
    obtain ⟨env1, h1, h2, h3⟩ := h x List.mem_cons_self
    have ih := fun acc => comp_map hs g f p xs acc fun y m => h y (List.mem_cons_of_mem _ m)
    rw [List.map_cons, compGo, if_pos hs, h1, Option.bind_some, h2, Option.bind_some]
    cases hp : p x with
    | true =>
      simp only [if_true, h3 hp, Option.bind_some]
      rw [ih, List.filter_cons_of_pos (by simpa using hp)]
      simp
    | false =>
      simp only [Bool.false_eq_true, if_false]
      rw [ih, List.filter_cons_of_neg (by simp [hp])]
theorem comp_yes {α : Type} {call : CallF} {elt : En → Mm → Option (D × Mm)} {src : List (Nat × List D)} (g f : α → D) (xs : List α) (hs : chks src M = true) (h : ∀ x ∈ xs, (asg t (g x) env).bind (fun env1 => elt env1 M) = some (f x, M)) :
    compGo (evT call .yes) elt t src env (xs.map g) [] M = some (xs.map f, M) := by
  rw [comp_map hs g f (fun _ => true) xs [] fun x m => ?_, List.filter_eq_self.mpr (fun _ _ => rfl)]
  · rfl
  · obtain ⟨e, h1, h2⟩ := Option.bind_eq_some_iff.mp (h x m)
    exact ⟨e, h1, rfl, fun _ => h2⟩
theorem comp_if {α : Type} {cond : En → Mm → Option (Bool × Mm)} {elt : En → Mm → Option (D × Mm)} {src : List (Nat × List D)} (g f : α → D) (p : α → Bool) (xs : List α) (hs : chks src M = true) (h : ∀ x ∈ xs, (asg t (g x) env).bind (fun env1 => cond env1 M) = some (p x, M))
    (h2 : ∀ x ∈ xs, p x = true → (asg t (g x) env).bind (fun env1 => elt env1 M) = some (f x, M)) :
    compGo cond elt t src env (xs.map g) [] M = some ((xs.filter p).map f, M) := by
  rw [comp_map hs g f p xs [] fun x m => ?_]
  · rfl
  · obtain ⟨e, h3, h4⟩ := Option.bind_eq_some_iff.mp (h x m)
    refine ⟨e, h3, h4, fun hp => ?_⟩
    have := h2 x m hp
    rwa [h3, Option.bind_some] at this
@[simp] theorem it_lst : itOf M (.lst ds) = some ⟨[], ds⟩ := rfl
@[simp] theorem it_tup : itOf M (.tup ds) = some ⟨[], ds⟩ := rfl
@[simp] theorem it_fz : itOf M (.fz ds) = some ⟨[], ds⟩ := rfl
@[simp] theorem itL_lst : itL M (.lst ds) = some ⟨[], ds⟩ := rfl
@[simp] theorem lo_lst : lstOf M (.lst ds) = some ds := rfl
@[simp] theorem lo_tup : lstOf M (.tup ds) = none := rfl
@[simp] theorem so_lst : seqOf M (.lst ds) = some ds := rfl
@[simp] theorem so_tup : seqOf M (.tup ds) = some ds := rfl
@[simp] theorem sk_lst : seqK M (.lst ds) = some ds := rfl
@[simp] theorem sk_tup : seqK M (.tup ds) = some ds := rfl
@[simp] theorem ix_lst {k : Int} : semIx M (.lst ds) (.int k) = L2.atI ds k := by
  simp [semIx, dicOf, seqOf, intOf]
theorem len_lst {m : Bool} (h : ds.length ≤ lim) : semB .len m [.lst ds] M = some (.int ds.length, M) := by simp [semB, h]
theorem len_tup {m : Bool} (h : ds.length ≤ lim) : semB .len m [.tup ds] M = some (.int ds.length, M) := by simp [semB, h]
theorem tup_lst {m : Bool} (h : ds.length ≤ lim) : semB .tuple m [.lst ds] M = some (.tup ds, M) := by simp [semB, h]
end
end DL
namespace X
open DL PySem
theorem pu_sum_of {xs : List Rat} {a N : Nat} (h : ∀ x ∈ xs, In a N x) (ha : a ≤ 200) (hN : (xs.length * N).log2 ≤ 100000) : Pu defs 3 i_sum_of [.lst (xs.map fr)] (fr xs.sum) := by
  refine Pu.mk (df := ⟨1, 3, true, b_sum_of⟩) rfl ⟨rfl, by decide⟩ fun k M hk => ?_
  have loop : ∀ (ys : List Rat) (z : Rat) (l : Option D) (o : Option D) (n : Nat), In a (n * N) z → (∀ x ∈ ys, In a N x) → n + ys.length = xs.length →
      ∃ o', forGo (exS (callN defs k) (.seq (.set (.nm 1) (.call i_add (.cons (.var 1) (.cons (.var 2) .nil)))) .nil)) (.nm 2) [] (ys.map fr) [l, some (fr z), o] M = some (.nx, [l, some (fr (z + ys.sum)), o'], M) := by
    intro ys
    induction ys with
    | nil => intro z l o n _ _ _; exact ⟨o, by simp [Rat.add_zero]⟩
    | cons y ys ih =>
      intro z l o n hz hy hn
      have oz : Ok z := hz.ok ha (Nat.le_trans (log2_mono (Nat.mul_le_mul_right N (by simp at hn; omega))) hN)
      have oy : Ok y := (hy y List.mem_cons_self).ok ha (Nat.le_trans (log2_mono (Nat.le_mul_of_pos_left N (by simp at hn; omega))) hN)
      obtain ⟨o', e⟩ := ih (z + y) l (some (fr y)) (n + 1) (by rw [Nat.add_mul, Nat.one_mul]; exact hz.add (hy y List.mem_cons_self)) (fun x m => hy x (List.mem_cons_of_mem _ m)) (by simp at hn ⊢; omega)
      refine ⟨o', ?_⟩
      rw [List.map_cons, for_cons]
      simp
      rw [(pu_add oz oy).at _ hk]
      simp
      rw [e, Rat.add_assoc]
  obtain ⟨o', e⟩ := loop xs 0 (some (.lst (xs.map fr))) none 0 (In.zero) h (by simp)
  have z0 : fr 0 = .tup [.int 0, .int 1] := rfl
  rw [z0] at e
  simp [b_sum_of, List.replicate]
  rw [e]
  simp [Rat.zero_add]
end X

set_option maxRecDepth 100000
namespace X
open DL PySem
/-! ### levels -/
@[irreducible] def L (k : Nat) (q : Rat) : Prop := In k (2 ^ (200 * k)) q
section
variable {k k' : Nat} {x y : Rat}
theorem L.out (h : L k x) : In k (2 ^ (200 * k)) x := by unfold L at h; exact h
theorem L.of (h : In k (2 ^ (200 * k)) x) : L k x := by unfold L; exact h
theorem p2_mono (h : k ≤ k') : 2 ^ (200 * k) ≤ 2 ^ (200 * k') := Nat.pow_le_pow_right (by decide) (by omega)
theorem L.mono (h : L k x) (hk : k ≤ k') : L k' x := L.of (In.mono h.out hk (p2_mono hk))
theorem p2_step (n : Nat) (h : n ≤ 64) : n * 2 ^ (200 * k) ≤ 2 ^ (200 * (k + 1)) := by
  have e : 2 ^ (200 * (k + 1)) = 2 ^ (200 * k) * 2 ^ 200 := by rw [← Nat.pow_add]; rfl
  have h1 : n ≤ 2 ^ 200 := Nat.le_trans h (by decide)
  rw [e, Nat.mul_comm]
  exact Nat.mul_le_mul_left _ h1
theorem L.add (hx : L k x) (hy : L k y) : L (k + 1) (x + y) := L.of (In.mono (In.add hx.out hy.out) (Nat.le_succ k) (by have := p2_step (k := k) 2 (by decide); omega))
theorem L.sub (hx : L k x) (hy : L k y) : L (k + 1) (x - y) := L.of (In.mono (In.sub hx.out hy.out) (Nat.le_succ k) (by have := p2_step (k := k) 2 (by decide); omega))
theorem L.mul (hx : L k x) (hy : L k' y) : L (k + k') (x * y) := L.of (In.mono (In.mul hx.out hy.out) (Nat.le_refl _) (by rw [← Nat.pow_add, ← Nat.mul_add]; exact Nat.le_refl _))
theorem L.gt (hx : L k x) (hy : L k y) : L k (gt x y) := L.of (In.gt hx.out hy.out)
theorem L.zero : L k 0 := L.of In.zero
theorem L.one : L k 1 := L.of (In.one Nat.one_le_two_pow)
theorem L.sum {xs : List Rat} (h : ∀ x ∈ xs, L k x) (hl : xs.length ≤ 64) : L (k + 1) xs.sum := L.of (In.mono (In.sum fun x m => (h x m).out) (Nat.le_succ k) (p2_step _ hl))
theorem p2_log (h : k ≤ 200) : (2 ^ (200 * k)).log2 ≤ 100000 := by
  rw [Nat.log2_two_pow]; omega
theorem L.ok (h : L k x) (hk : k ≤ 200) : Ok x := In.ok h.out hk (p2_log hk)
end
abbrev Row := Rat × Rat
def rowD (r : Row) : D := .tup [fr r.1, fr r.2]
def boxD (b : List Row) : D := .tup (b.map rowD)
abbrev Cos := Rat × List Row
def cosD (c : Cos) : D := .tup [fr c.1, boxD c.2]
/-- the rows of a box -/
def LB (k : Nat) (b : List Row) : Prop := ∀ r ∈ b, L k r.1 ∧ L k r.2
theorem lim64 {n : Nat} (h : n ≤ 64) : n ≤ lim := Nat.le_trans h (by decide)
section
variable {k : Nat}
theorem pu_sum {xs : List Rat} (h : ∀ x ∈ xs, L k x) (hk : k ≤ 150) (hl : xs.length ≤ 64) : Pu defs 3 i_sum_of [.lst (xs.map fr)] (fr xs.sum) :=
  pu_sum_of (fun x m => (h x m).out) (by omega) (by
    have h1 := log2_mono (p2_step (k := k) xs.length hl)
    have h2 := p2_log (k := k + 1) (by omega)
    omega)
def gts : List Rat → Rat
  | [] => 0
  | x :: xs => xs.foldl gt x
theorem L.foldl {xs : List Rat} : ∀ {z : Rat}, L k z → (∀ x ∈ xs, L k x) → L k (xs.foldl X.gt z) := by
  induction xs with
  | nil => intro z h _; exact h
  | cons x xs ih => intro z h a; exact ih (h.gt (a x List.mem_cons_self)) fun y m => a y (List.mem_cons_of_mem _ m)
theorem gt_self (x : Rat) : gt x x = x := by unfold gt; split <;> rfl
theorem pu_greatest {x : Rat} {xs : List Rat} (h : ∀ y ∈ x :: xs, L k y) (hk : k ≤ 150) : Pu defs 3 i_greatest [.lst ((x :: xs).map fr)] (fr (gts (x :: xs))) := by
  refine Pu.mk (df := ⟨1, 3, true, b_greatest⟩) rfl ⟨rfl, by decide⟩ fun c M hc => ?_
  have loop : ∀ (ys : List Rat) (z : Rat) (l : Option D) (o : Option D), L k z → (∀ y ∈ ys, L k y) →
      ∃ o', forGo (exS (callN defs c) (.seq (.set (.nm 1) (.call i_greater_of (.cons (.var 1) (.cons (.var 2) .nil)))) .nil)) (.nm 2) [] (ys.map fr) [l, some (fr z), o] M = some (.nx, [l, some (fr (ys.foldl gt z)), o'], M) := by
    intro ys
    induction ys with
    | nil => intro z l o _ _; exact ⟨o, by simp⟩
    | cons y ys ih =>
      intro z l o hz hy
      have oz := hz.ok (by omega)
      have oy := (hy y List.mem_cons_self).ok (by omega)
      obtain ⟨o', e⟩ := ih (gt z y) l (some (fr y)) (hz.gt (hy y List.mem_cons_self)) fun w m => hy w (List.mem_cons_of_mem _ m)
      refine ⟨o', ?_⟩
      rw [List.map_cons, for_cons]
      simp
      rw [(pu_greater_of oz oy).at _ hc]
      simp
      rw [e]
  obtain ⟨o', e⟩ := loop (x :: xs) x (some (.lst ((x :: xs).map fr))) none (h x List.mem_cons_self) h
  have e2 : (x :: xs).foldl gt x = gts (x :: xs) := by unfold gts; rw [List.foldl_cons, gt_self]
  rw [e2] at e
  simp [b_greatest, List.replicate]
  rw [List.map_cons] at e
  rw [e]
  simp
def drawn (b : List Row) (w : Rat) : Rat := (b.map fun r => r.2 * gt w r.1).sum
theorem pu_drawn_by {b : List Row} {w : Rat} (hb : LB k b) (hw : L k w) (hk : k ≤ 70) (hl : b.length ≤ 64) : Pu defs 4 i_drawn_by [boxD b, fr w] (fr (drawn b w)) := by
  refine Pu.mk (df := ⟨2, 4, true, b_drawn_by⟩) rfl ⟨rfl, by decide⟩ fun c M hc => ?_
  simp [b_drawn_by, List.replicate, boxD]
  rw [comp_yes rowD (fun r => fr (r.2 * gt w r.1)) b rfl ?_]
  rotate_left
  · intro r hr
    simp [rowD, wipeD]
    rw [show ([fr w, fr r.1] : List D) = [w, r.1].map fr from rfl, (pu_greatest (k := k) (xs := [r.1]) (by
      intro y hy
      simp at hy
      rcases hy with rfl | rfl
      · exact hw
      · exact (hb r hr).1) (by omega)).at _ (by omega)]
    simp
    have e : gts [w, r.1] = gt w r.1 := rfl
    rw [e, (pu_multiply ((hb r hr).2.ok (by omega)) ((hw.gt (hb r hr).1).ok (by omega))).at _ (by omega)]
  have hs : ∀ x ∈ b.map (fun r => r.2 * gt w r.1), L (k + k) x := by
    intro x hx
    obtain ⟨r, hr, rfl⟩ := List.mem_map.mp hx
    exact (hb r hr).2.mul (hw.gt (hb r hr).1)
  have := (pu_sum hs (by omega) (by simpa using hl)).at M (k := c) (by omega)
  rw [List.map_map] at this
  simp [lim64 hl]
  rw [show (b.map fun r => fr (r.2 * gt w r.1)) = b.map (fr ∘ fun r => r.2 * gt w r.1) from rfl, this]
  simp [drawn]
end
end X

set_option maxRecDepth 100000
namespace X
open DL PySem
/-! ### equality -/
theorem eqD_tt {M : Mm} {a b c d : Int} : eqD M (.tup [.int a, .int b]) (.tup [.int c, .int d]) = some (decide (a = c ∧ b = d)) := by
  simp [eqD, toPy, PyData.eqv, PyData.eqvAll]
  rfl
theorem eqD_fr {M : Mm} {x y : Rat} : eqD M (fr x) (fr y) = some (decide (x = y)) := by
  unfold fr
  rw [eqD_tt]
  congr 1
  apply decide_eq_decide.mpr
  constructor
  · rintro ⟨h1, h2⟩
    exact Rat.ext h1 (by exact_mod_cast h2)
  · rintro rfl; exact ⟨rfl, rfl⟩
@[simp] theorem sc_eqf {M : Mm} {x y : Rat} : semC M .eq (fr x) (fr y) = some (decide (x = y)) := eqD_fr
@[simp] theorem sc_nef {M : Mm} {x y : Rat} : semC M .ne (fr x) (fr y) = some (!decide (x = y)) := by simp [semC, eqD_fr]
theorem toPy_fr {M : Mm} {n : Nat} {x : Rat} : toPy (n + 2) M (fr x) = some (.tuple [.int x.num, .int x.den]) := rfl
theorem mapM_fr {M : Mm} {n : Nat} : ∀ xs : List Rat, (xs.map fr).mapM (toPy (n + 2) M) = some (xs.map fun x => .tuple [.int x.num, .int x.den])
  | [] => rfl
  | x :: xs => by
    rw [List.map_cons, List.mapM_cons, toPy_fr, mapM_fr xs]; rfl
@[simp] theorem ne_nil {M : Mm} (xs : List Rat) : semC M .ne (.lst (xs.map fr)) (.lst []) = some (!xs.isEmpty) := by
  have h1 : toPy 60 M (.lst (xs.map fr)) = some (.list (xs.map fun x => .tuple [.int x.num, .int x.den])) := by
    show ((xs.map fr).mapM (toPy 59 M)).map PyData.list = _
    rw [mapM_fr (n := 57)]; rfl
  have h2 : toPy 60 M (.lst []) = some (.list []) := rfl
  simp only [semC, eqD, h1, h2, Option.bind_eq_bind, Option.bind_some, Option.map_some]
  cases xs <;> simp [PyData.eqv, PyData.eqvAll]
@[simp] theorem ne_nil0 {M : Mm} : semC M .ne (.lst []) (.lst []) = some false := ne_nil []
theorem inD_fr {M : Mm} {x : Rat} (xs : List Rat) : inD M (fr x) (.lst (xs.map fr)) = some (decide (x ∈ xs)) := by
  have h1 : toPy 60 M (.lst (xs.map fr)) = some (.list (xs.map fun x => .tuple [.int x.num, .int x.den])) := by
    show ((xs.map fr).mapM (toPy 59 M)).map PyData.list = _
    rw [mapM_fr (n := 57)]; rfl
  have h2 : toPy 60 M (fr x) = some (.tuple [.int x.num, .int x.den]) := rfl
  simp only [inD, h1, h2, Option.bind_eq_bind, Option.bind_some]
  congr 1
  rw [Bool.eq_iff_iff, List.any_eq_true, decide_eq_true_eq]
  constructor
  · rintro ⟨y, hy, e⟩
    obtain ⟨z, hz, rfl⟩ := List.mem_map.mp hy
    simp [PyData.eqv, PyData.eqvAll] at e
    have : z = x := Rat.ext e.1 (by exact_mod_cast e.2)
    rw [← this]; exact hz
  · intro h
    exact ⟨_, List.mem_map.mpr ⟨x, h, rfl⟩, by simp [PyData.eqv, PyData.eqvAll]⟩
/-! ### the boxes of the package -/
section
variable {k : Nat}
def atMost (b : List Row) (w : Rat) : Rat := ((b.filter fun r => !decide (w < r.1)).map (·.2)).sum
theorem LB.sub {b : List Row} (hb : LB k b) (p : Row → Bool) : LB k (b.filter p) := fun r m => hb r (List.mem_filter.mp m).1
theorem LB.snd {b : List Row} (hb : LB k b) : ∀ x ∈ b.map (·.2), L k x := fun x m => by
  obtain ⟨r, hr, rfl⟩ := List.mem_map.mp m
  exact (hb r hr).2
theorem LB.fst {b : List Row} (hb : LB k b) : ∀ x ∈ b.map (·.1), L k x := fun x m => by
  obtain ⟨r, hr, rfl⟩ := List.mem_map.mp m
  exact (hb r hr).1
theorem pu_at_most {b : List Row} {w : Rat} (hb : LB k b) (hw : L k w) (hk : k ≤ 100) (hl : b.length ≤ 64) : Pu defs 4 i_at_most [boxD b, fr w] (fr (atMost b w)) := by
  refine Pu.mk (df := ⟨2, 4, true, b_at_most⟩) rfl ⟨rfl, by decide⟩ fun c M hc => ?_
  simp [b_at_most, List.replicate, boxD]
  rw [comp_if rowD (fun r => fr r.2) (fun r => !decide (w < r.1)) b rfl ?_ ?_]
  rotate_left
  · intro r hr
    simp [rowD, wipeD]
    rw [(pu_is_below (hw.ok (by omega)) ((hb r hr).1.ok (by omega))).at _ (by omega)]
    simp
  · intro r hr _
    simp [rowD, wipeD]
  have hl2 : (b.filter fun r => !decide (w < r.1)).length ≤ 64 := Nat.le_trans (List.length_filter_le _ _) hl
  have := (pu_sum (hb.sub fun r => !decide (w < r.1)).snd (by omega) (by simpa using hl2)).at M (k := c) (by omega)
  rw [List.map_map] at this
  simp [lim64 hl2]
  rw [show ((b.filter fun r => !decide (w < r.1)).map fun r => fr r.2) = (b.filter fun r => !decide (w < r.1)).map (fr ∘ fun r => r.2) from rfl, this]
  simp [atMost]
theorem at_most_L {b : List Row} {w : Rat} (hb : LB k b) (hl : b.length ≤ 64) : L (k + 1) (atMost b w) :=
  L.sum (hb.sub _).snd (by rw [List.length_map]; exact Nat.le_trans (List.length_filter_le _ _) hl)
theorem drawn_L {b : List Row} {w : Rat} (hb : LB k b) (hw : L k w) (hl : b.length ≤ 64) : L (k + k + 1) (drawn b w) := by
  refine L.sum (fun x hx => ?_) (by rw [List.length_map]; exact hl)
  obtain ⟨r, hr, rfl⟩ := List.mem_map.mp hx
  exact (hb r hr).2.mul (hw.gt (hb r hr).1)
def beyond (b : List Row) (w : Rat) : Rat := drawn b w - w
theorem beyond_L {b : List Row} {w : Rat} (hb : LB k b) (hw : L k w) (hl : b.length ≤ 64) : L (k + k + 2) (beyond b w) := (drawn_L hb hw hl).sub (hw.mono (by omega))
theorem pu_beyond {b : List Row} {w : Rat} (hb : LB k b) (hw : L k w) (hk : k ≤ 70) (hl : b.length ≤ 64) : Pu defs 5 i_beyond [boxD b, fr w] (fr (beyond b w)) := by
  refine Pu.mk (df := ⟨2, 2, true, b_beyond⟩) rfl ⟨rfl, by decide⟩ fun c M hc => ?_
  simp [b_beyond, List.replicate]
  rw [(pu_drawn_by hb hw hk hl).at _ (by omega)]
  simp
  rw [(pu_subtract ((drawn_L hb hw hl).ok (by omega)) (hw.ok (by omega))).at _ (by omega)]
  simp [beyond]
def prod (xs : List Rat) : Rat := xs.foldl (· * ·) 1
theorem pu_product_of {xs : List Rat} (h : ∀ x ∈ xs, L k x) (hk : k ≤ 20) (hl : xs.length ≤ 8) : Pu defs 3 i_product_of [.lst (xs.map fr)] (fr (prod xs)) ∧ L (8 * k) (prod xs) := by
  have lv : ∀ (ys : List Rat) (z : Rat) (n : Nat), L (n * k) z → (∀ y ∈ ys, L k y) → L ((n + ys.length) * k) (ys.foldl (· * ·) z) := by
    intro ys
    induction ys with
    | nil => intro z n hz _; exact hz
    | cons y ys ih =>
      intro z n hz hy
      have := ih (z * y) (n + 1) (by rw [Nat.add_mul, Nat.one_mul]; exact hz.mul (hy y List.mem_cons_self)) fun w m => hy w (List.mem_cons_of_mem _ m)
      rw [List.length_cons, show n + (ys.length + 1) = n + 1 + ys.length by omega]
      exact this
  constructor
  · refine Pu.mk (df := ⟨1, 3, true, b_product_of⟩) rfl ⟨rfl, by decide⟩ fun c M hc => ?_
    have loop : ∀ (ys : List Rat) (z : Rat) (l : Option D) (o : Option D) (n : Nat), L (n * k) z → (∀ y ∈ ys, L k y) → n + ys.length = xs.length →
        ∃ o', forGo (exS (callN defs c) (.seq (.set (.nm 1) (.call i_multiply (.cons (.var 1) (.cons (.var 2) .nil)))) .nil)) (.nm 2) [] (ys.map fr) [l, some (fr z), o] M = some (.nx, [l, some (fr (ys.foldl (· * ·) z)), o'], M) := by
      intro ys
      induction ys with
      | nil => intro z l o n _ _ _; exact ⟨o, by simp⟩
      | cons y ys ih =>
        intro z l o n hz hy hn
        have nk : n * k ≤ 160 := Nat.le_trans (Nat.mul_le_mul (show n ≤ 8 by simp at hn; omega) hk) (by decide)
        obtain ⟨o', e⟩ := ih (z * y) l (some (fr y)) (n + 1) (by rw [Nat.add_mul, Nat.one_mul]; exact hz.mul (hy y List.mem_cons_self)) (fun w m => hy w (List.mem_cons_of_mem _ m)) (by simp at hn ⊢; omega)
        refine ⟨o', ?_⟩
        rw [List.map_cons, for_cons]
        simp
        rw [(pu_multiply (hz.ok (by omega)) ((hy y List.mem_cons_self).ok (by omega))).at _ hc]
        simp
        rw [e]
    obtain ⟨o', e⟩ := loop xs 1 (some (.lst (xs.map fr))) none 0 L.one h (by simp)
    have z0 : fr 1 = .tup [.int 1, .int 1] := rfl
    rw [z0] at e
    simp [b_product_of, List.replicate]
    rw [e]
    simp [prod]
  · have := lv xs 1 0 L.one h
    rw [Nat.zero_add] at this
    exact this.mono (Nat.mul_le_mul_right k hl)
end
end X

set_option maxRecDepth 100000
namespace X
/-! ### means over boxes -/
/-- the mean of f over the worths -/
def ex (b : List Row) (f : Rat → Rat) : Rat := (b.map fun r => r.2 * f r.1).sum
section
variable {b : List Row} {f g : Rat → Rat} {w z c : Rat} {r : Row}
@[simp] theorem ex_nil : ex [] f = 0 := rfl
theorem ex_cons : ex (r :: b) f = r.2 * f r.1 + ex b f := by simp [ex]
theorem ex_add : ex b (fun x => f x + g x) = ex b f + ex b g := by
  induction b with
  | nil => simp; grind
  | cons r b ih => rw [ex_cons, ex_cons, ex_cons, ih]; grind
theorem ex_sub : ex b (fun x => f x - g x) = ex b f - ex b g := by
  induction b with
  | nil => simp; grind
  | cons r b ih => rw [ex_cons, ex_cons, ex_cons, ih]; grind
theorem ex_smul : ex b (fun x => c * f x) = c * ex b f := by
  induction b with
  | nil => simp
  | cons r b ih => rw [ex_cons, ex_cons, ih]; grind
theorem ex_congr (h : ∀ r ∈ b, f r.1 = g r.1) : ex b f = ex b g := by
  induction b with
  | nil => rfl
  | cons r b ih => rw [ex_cons, ex_cons, h r List.mem_cons_self, ih fun s m => h s (List.mem_cons_of_mem _ m)]
theorem ex_le (hp : ∀ r ∈ b, 0 ≤ r.2) (h : ∀ r ∈ b, f r.1 ≤ g r.1) : ex b f ≤ ex b g := by
  induction b with
  | nil => exact Rat.le_refl
  | cons r b ih =>
    rw [ex_cons, ex_cons]
    have h1 := ih (fun s m => hp s (List.mem_cons_of_mem _ m)) fun s m => h s (List.mem_cons_of_mem _ m)
    have h2 := Rat.mul_le_mul_of_nonneg_left (h r List.mem_cons_self) (hp r List.mem_cons_self)
    grind
theorem ex_lt (hp : ∀ r ∈ b, 0 < r.2) (h : ∀ r ∈ b, f r.1 ≤ g r.1) (hr : r ∈ b) (hs : f r.1 < g r.1) : ex b f < ex b g := by
  induction b with
  | nil => simp at hr
  | cons s b ih =>
    rw [ex_cons, ex_cons]
    rcases List.mem_cons.mp hr with e | m
    · subst e
      have h1 := ex_le (f := f) (g := g) (fun s m => Rat.le_of_lt (hp s (List.mem_cons_of_mem _ m))) fun s m => h s (List.mem_cons_of_mem _ m)
      have h2 := Rat.mul_lt_mul_of_pos_left hs (hp r List.mem_cons_self)
      grind
    · have h1 := ih (fun s m => hp s (List.mem_cons_of_mem _ m)) (fun s m => h s (List.mem_cons_of_mem _ m)) m
      have h2 := Rat.mul_le_mul_of_nonneg_left (h s List.mem_cons_self) (Rat.le_of_lt (hp s List.mem_cons_self))
      grind
theorem ex_const : ex b (fun _ => c) = c * ex b (fun _ => 1) := by
  induction b with
  | nil => simp
  | cons r b ih => rw [ex_cons, ex_cons, ih]; grind
theorem ex_filter (p : Rat → Bool) : ex (b.filter fun r => p r.1) f = ex b (fun x => if p x then f x else 0) := by
  induction b with
  | nil => rfl
  | cons r b ih =>
    rw [ex_cons]
    by_cases h : p r.1 = true
    · rw [List.filter_cons_of_pos (by exact h), ex_cons, ih, if_pos h]
    · rw [List.filter_cons_of_neg (by exact h), ih, if_neg h]; grind
theorem mass_eq : (b.map (·.2)).sum = ex b (fun _ => 1) := by
  unfold ex
  congr 1
  apply List.map_congr_left
  intro r _
  rw [Rat.mul_one]
theorem drawn_ex : drawn b w = ex b (gt w) := rfl
theorem atMost_ex : atMost b w = ex b (fun x => if w < x then 0 else 1) := by
  unfold atMost
  rw [mass_eq, ex_filter (fun x => !decide (w < x))]
  apply ex_congr
  intro r _
  by_cases h : w < r.1 <;> simp [h]
end
theorem le_gt (x y : Rat) : x ≤ gt x y := by unfold gt; split <;> grind
theorem le_gt2 (x y : Rat) : y ≤ gt x y := by unfold gt; split <;> grind
theorem gt_le {x y z : Rat} (h1 : x ≤ z) (h2 : y ≤ z) : gt x y ≤ z := by unfold gt; split <;> assumption
/-- a box -/
structure Bx (b : List Row) : Prop where
  ne : b ≠ []
  inc : b.Pairwise fun r s => r.1 < s.1
  pos : ∀ r ∈ b, 0 < r.2
  one : ex b (fun _ => 1) = 1
section
variable {b : List Row} {w z c : Rat}
theorem Bx.nn (h : Bx b) : ∀ r ∈ b, 0 ≤ r.2 := fun r m => Rat.le_of_lt (h.pos r m)
theorem Bx.const (h : Bx b) : ex b (fun _ => c) = c := by rw [ex_const, h.one, Rat.mul_one]
theorem beyond_ex (h : Bx b) : beyond b w = ex b (fun x => gt w x - w) := by
  unfold beyond
  rw [drawn_ex, ex_sub, h.const]
theorem beyond_anti (h : Bx b) (hw : w ≤ z) : beyond b z ≤ beyond b w := by
  rw [beyond_ex h, beyond_ex h]
  refine ex_le h.nn fun r _ => ?_
  unfold gt; split <;> split <;> grind
theorem beyond_nn (h : Bx b) : 0 ≤ beyond b w := by
  rw [beyond_ex h, ← h.const (c := 0)]
  exact ex_le h.nn fun r _ => by have := le_gt w r.1; grind
theorem beyond_pos (h : Bx b) (hp : 0 < beyond b w) : ∃ r ∈ b, w < r.1 := by
  refine Classical.byContradiction fun hn => ?_
  have hn' : ∀ r ∈ b, r.1 ≤ w := fun r m => Rat.not_lt.mp fun z => hn ⟨r, m, z⟩
  have : beyond b w = 0 := by
    rw [beyond_ex h, ← h.const (c := 0)]
    refine ex_congr fun r m => ?_
    have := hn' r m
    unfold gt; split <;> grind
  rw [this] at hp
  exact Rat.lt_irrefl hp
/-- beyond falls where something lies beyond -/
theorem beyond_lt (h : Bx b) (hw : w < z) {r : Row} (hr : r ∈ b) (hz : w < r.1) : beyond b z < beyond b w := by
  rw [beyond_ex h, beyond_ex h]
  refine ex_lt h.pos (fun r _ => ?_) hr ?_
  · unfold gt; split <;> split <;> grind
  · unfold gt; rw [if_pos hz]; split <;> grind
end
end X

set_option maxRecDepth 100000
namespace X
/-! ### the reserve -/
def hdR (b : List Row) : Row := b.headD (0, 0)
def lastR (l : List Rat) : Rat := l.getLastD 0
def over (b : List Row) (w : Rat) : Rat := ex b fun x => if w < x then 1 else 0
def belows (c : Rat) (b : List Row) : List Rat := (b.filter fun r => !decide (beyond b r.1 < c)).map (·.1)
def reserve (c : Rat) (b : List Row) : Rat :=
  if belows c b = [] then (hdR b).1 + (beyond b (hdR b).1 - c)
  else lastR (belows c b) + (beyond b (lastR (belows c b)) - c) / over b (lastR (belows c b))
theorem getLast_mem {l : List Rat} (h : l ≠ []) : lastR l ∈ l := by
  unfold lastR
  cases l with
  | nil => exact absurd rfl h
  | cons x l =>
    rw [List.getLastD_cons, List.getLastD_eq_getLast?]
    cases e : l.getLast? with
    | none => simp at e; subst e; simp
    | some y =>
      simp
      right
      exact List.mem_of_getLast? e
theorem last_max : ∀ {l : List Rat} {d : Rat}, l.Pairwise (· < ·) → ∀ x ∈ l, x ≤ l.getLastD d
  | [], _, _, _, h => by simp at h
  | [y], _, _, x, h => by simp at h; subst h; simp
  | y :: z :: l, d, hp, x, h => by
    rw [List.getLastD_cons]
    rw [List.pairwise_cons] at hp
    have ih := last_max (l := z :: l) (d := y) hp.2
    rcases List.mem_cons.mp h with e | m
    · subst e
      exact Rat.le_trans (Rat.le_of_lt (hp.1 z List.mem_cons_self)) (ih z List.mem_cons_self)
    · exact ih x m
section
variable {b : List Row} {w x c : Rat}
theorem over_atMost (h : Bx b) : 1 - atMost b w = over b w := by
  rw [atMost_ex]
  have : (1 : Rat) = ex b (fun _ => 1) := h.one.symm
  rw [this, ← ex_sub]
  refine ex_congr fun r _ => ?_
  split <;> grind
theorem over_pos (h : Bx b) {r : Row} (hr : r ∈ b) (hw : w < r.1) : 0 < over b w := by
  have : (0 : Rat) = ex b (fun _ => 0) := (h.const (c := 0)).symm
  rw [this]
  unfold over
  refine ex_lt h.pos (fun r _ => ?_) hr ?_
  · split <;> grind
  · rw [if_pos hw]; grind
/-- between two worths beyond is a line -/
theorem beyond_line (h : Bx b) (hw : w ≤ x) (hx : ∀ r ∈ b, w < r.1 → x ≤ r.1) : beyond b x = beyond b w - over b w * (x - w) := by
  rw [beyond_ex h, beyond_ex h, over, Rat.mul_comm, ← ex_smul, ← ex_sub]
  refine ex_congr fun r m => ?_
  have := hx r m
  unfold gt
  by_cases h1 : w < r.1
  · have h2 := this h1
    rw [if_pos h1, if_pos h1]
    split <;> grind
  · rw [if_neg h1, if_neg h1, if_neg (by grind)]; grind
theorem least {b : List Row} {w : Rat} : ∀ {l : List Row}, (∃ r ∈ l, w < r.1) → ∃ r ∈ l, w < r.1 ∧ ∀ s ∈ l, w < s.1 → r.1 ≤ s.1
  | [], h => by obtain ⟨r, hr, _⟩ := h; simp at hr
  | a :: l, h => by
    by_cases hl : ∃ r ∈ l, w < r.1
    · obtain ⟨r, hr, h1, h2⟩ := least (b := b) hl
      by_cases ha : w < a.1 ∧ a.1 < r.1
      · refine ⟨a, List.mem_cons_self, ha.1, fun s hs hw => ?_⟩
        rcases List.mem_cons.mp hs with e | m
        · rw [e]; exact Rat.le_refl
        · exact Rat.le_trans (Rat.le_of_lt ha.2) (h2 s m hw)
      · refine ⟨r, List.mem_cons_of_mem _ hr, h1, fun s hs hw => ?_⟩
        rcases List.mem_cons.mp hs with e | m
        · subst e
          exact Rat.not_lt.mp fun z => ha ⟨hw, z⟩
        · exact h2 s m hw
    · obtain ⟨r, hr, h1⟩ := h
      rcases List.mem_cons.mp hr with e | m
      · subst e
        refine ⟨r, List.mem_cons_self, h1, fun s hs hw => ?_⟩
        rcases List.mem_cons.mp hs with e | m
        · rw [e]; exact Rat.le_refl
        · exact absurd ⟨s, m, hw⟩ hl
      · exact absurd ⟨r, m, h1⟩ hl
theorem head_min (h : Bx b) : ∀ r ∈ b, (hdR b).1 ≤ r.1 := by
  intro r hr
  unfold hdR
  cases b with
  | nil => simp at hr
  | cons a l =>
    have := h.inc
    rw [List.pairwise_cons] at this
    rcases List.mem_cons.mp hr with e | m
    · rw [e]; exact Rat.le_refl
    · exact Rat.le_of_lt (this.1 r m)
theorem fst_sorted (h : Bx b) : (b.map (·.1)).Pairwise (· < ·) := List.pairwise_map.mpr h.inc
theorem belows_sorted (h : Bx b) : (belows c b).Pairwise (· < ·) := List.pairwise_map.mpr (h.inc.filter _)
theorem belows_mem {x : Rat} : x ∈ belows c b ↔ (∃ r ∈ b, r.1 = x) ∧ c ≤ beyond b x := by
  unfold belows
  simp only [List.mem_map, List.mem_filter, Bool.not_eq_true', decide_eq_false_iff_not]
  constructor
  · rintro ⟨r, ⟨h1, h2⟩, rfl⟩
    exact ⟨⟨r, h1, rfl⟩, Rat.not_lt.mp h2⟩
  · rintro ⟨⟨r, h1, rfl⟩, h2⟩
    exact ⟨r, ⟨h1, Rat.not_lt.mpr h2⟩, rfl⟩
/-- what a mark is -/
theorem mark_props (h : Bx b) (hn : belows c b ≠ []) : c ≤ beyond b (lastR (belows c b)) ∧ ∀ r ∈ b, lastR (belows c b) < r.1 → beyond b r.1 < c := by
  refine ⟨(belows_mem.mp (getLast_mem hn)).2, fun r hr hw => ?_⟩
  refine Rat.not_le.mp fun z => ?_
  have : r.1 ≤ lastR (belows c b) := last_max (d := 0) (belows_sorted (c := c) h) r.1 (belows_mem.mpr ⟨⟨r, hr, rfl⟩, z⟩)
  grind
theorem reserve_eq (h : Bx b) (hc : 0 < c) : beyond b (reserve c b) = c := by
  unfold reserve
  by_cases hn : belows c b = []
  · rw [if_pos hn]
    have hm := head_min h
    generalize hd : (hdR b).1 = m at hm
    have hlt : beyond b m < c := by
      refine Rat.not_le.mp fun z => ?_
      have : m ∈ belows c b := belows_mem.mpr ⟨⟨hdR b, ?_, hd⟩, z⟩
      · rw [hn] at this; simp at this
      · have hb := h.ne
        cases b with
        | nil => exact absurd rfl hb
        | cons a l => exact List.mem_cons_self
    have mean : ∀ y, y ≤ m → beyond b y = ex b (fun x => x) - y := by
      intro y hy
      have e : beyond b y = ex b (fun x => x - y) := by
        rw [beyond_ex h]
        refine ex_congr fun r hr => ?_
        have := hm r hr
        unfold gt; split <;> grind
      rw [e, ex_sub, h.const]
    have e1 := mean m Rat.le_refl
    have e2 := mean (m + (beyond b m - c)) (by grind)
    rw [e2]; grind
  · rw [if_neg hn]
    obtain ⟨h1, h2⟩ := mark_props h hn
    generalize lastR (belows c b) = m at h1 h2
    obtain ⟨r, hr, hw⟩ := beyond_pos h (show 0 < beyond b m by grind)
    have ho := over_pos h hr hw
    obtain ⟨s, hs, hsw, hmin⟩ := least (b := b) ⟨r, hr, hw⟩
    have line := beyond_line h (Rat.le_of_lt hsw) hmin
    have lt := h2 s hs hsw
    have hz : (beyond b m - c) / over b m < s.1 - m := by
      rw [Rat.div_lt_iff ho]
      grind
    have hz0 : 0 ≤ (beyond b m - c) / over b m := by
      refine Rat.not_lt.mp fun z => ?_
      rw [Rat.div_lt_iff ho] at z
      grind
    have line2 := beyond_line h (w := m) (x := m + (beyond b m - c) / over b m) (by grind) fun t ht hw' => by
      have := hmin t ht hw'
      grind
    rw [line2]
    have hne : over b m ≠ 0 := by grind
    have e3 : over b m * ((beyond b m - c) / over b m) = beyond b m - c := by
      rw [Rat.mul_comm, Rat.div_mul_cancel hne]
    grind
theorem reserve_below (h : Bx b) (hc : 0 < c) : ∃ r ∈ b, reserve c b < r.1 := beyond_pos h (by rw [reserve_eq h hc]; exact hc)
end
end X

set_option maxRecDepth 100000
namespace X
open DL PySem
/-! ### costly boxes -/
/-- a sum of twelfths at most: what is divided by -/
def Sh (q : Rat) : Prop := ∃ s J : Nat, 1 ≤ J ∧ J ≤ 12 ∧ 1 ≤ s ∧ s ≤ 12 ∧ q * s = J
structure Wf (c : Cos) : Prop where
  bx : Bx c.2
  pos : 0 < c.1
  len : c.2.length ≤ 3
  lc : L 1 c.1
  lb : LB 1 c.2
  sh : ∃ s : Nat, 1 ≤ s ∧ s ≤ 12 ∧ ∀ r ∈ c.2, ∃ j : Nat, 1 ≤ j ∧ r.2 * s = j
theorem Sh.pos {q : Rat} (h : Sh q) : 0 < q := by
  obtain ⟨s, J, h1, h2, h3, h4, e⟩ := h
  have hJ : (0 : Rat) < J := by exact_mod_cast (by omega : 0 < J)
  have hs : (0 : Rat) < s := by exact_mod_cast (by omega : 0 < s)
  rw [← e] at hJ
  exact (Rat.mul_pos_iff_of_pos_right hs).mp hJ
theorem Sh.inv {q : Rat} (h : Sh q) : L 1 q⁻¹ := by
  have hq := h.pos
  obtain ⟨s, J, h1, h2, h3, h4, e⟩ := h
  have hJ : (J : Rat) ≠ 0 := by
    intro z
    have : J = 0 := by exact_mod_cast z
    omega
  have e1 : q⁻¹ * J = s := by
    rw [← e, ← Rat.mul_assoc, Rat.inv_mul_cancel q (by grind), Rat.one_mul]
  have hd : C0 = J * (C0 / J) := by
    have : J ∣ C0 := by
      have : ∀ J, J < 13 → 1 ≤ J → J ∣ C0 := by decide
      exact this J (by omega) h1
    exact (Nat.mul_div_cancel' this).symm
  have hJ0 : (0 : Rat) < J := by exact_mod_cast (by omega : 0 < J)
  have q0 : 0 < q⁻¹ := Rat.inv_pos.mpr hq
  refine L.of ⟨⟨(s * (C0 / J) : Nat), ?_⟩, ?_, ?_⟩
  · rw [Nat.pow_one]
    conv => lhs; rw [hd]
    rw [Rat.natCast_mul, ← Rat.mul_assoc, e1, Rat.intCast_natCast, Rat.natCast_mul]
  · have : (0 : Rat) ≤ ((2 ^ (200 * 1) : Nat) : Rat) := by exact_mod_cast Nat.zero_le _
    grind
  · have h5 : q⁻¹ ≤ (12 : Nat) := by
      have h6 : q⁻¹ * J ≤ (12 : Nat) * J := by
        rw [e1]
        have : s ≤ 12 * J := by omega
        exact_mod_cast this
      exact Rat.le_of_mul_le_mul_right h6 hJ0
    refine Rat.le_trans h5 ?_
    exact_mod_cast (show 12 ≤ 2 ^ (200 * 1) by decide)
theorem L.div {k : Nat} {x q : Rat} (hx : L k x) (hq : Sh q) : L (k + 1) (x / q) := by
  rw [Rat.div_def]; exact hx.mul hq.inv
theorem dv_of {k : Nat} {q : Rat} (hq : Sh q) (h : L k q) (hk : k ≤ 10) : Dv q := by
  refine ⟨h.ok (by omega), hq.pos, ?_⟩
  have h1 := log2_mono (In.num h.out)
  have h2 := log2_mul (2 ^ (200 * k)) (C0 ^ k)
  have h3 := c0_log k
  have h4 : (2 ^ (200 * k)).log2 = 200 * k := Nat.log2_two_pow
  omega
theorem Sh.one : Sh 1 := ⟨1, 1, by decide, by decide, by decide, by decide, by simp⟩
section
variable {c : Cos}
theorem Wf.tot (h : Wf c) : (c.2.map (·.2)).sum = 1 := by rw [mass_eq]; exact h.bx.one
/-- the chance beyond a worth -/
theorem over_sh (h : Wf c) {w : Rat} {r : Row} (hr : r ∈ c.2) (hw : w < r.1) : Sh (over c.2 w) := by
  obtain ⟨s, s1, s2, hs⟩ := h.sh
  have main : ∀ b : List Row, (∀ r ∈ b, ∃ j : Nat, 1 ≤ j ∧ r.2 * s = j) → ∃ J T : Nat, over b w * s = J ∧ ex b (fun _ => 1) * s = T ∧ J ≤ T ∧ ((∃ r ∈ b, w < r.1) → 1 ≤ J) := by
    intro b
    induction b with
    | nil => intro _; exact ⟨0, 0, by simp [over], by simp, Nat.le_refl _, fun ⟨r, m, _⟩ => by simp at m⟩
    | cons a l ih =>
      intro hb
      obtain ⟨J, T, e1, e2, e3, e4⟩ := ih fun r m => hb r (List.mem_cons_of_mem _ m)
      obtain ⟨j, j1, ej⟩ := hb a List.mem_cons_self
      unfold over at e1 ⊢
      by_cases hw : w < a.1
      · refine ⟨J + j, T + j, ?_, ?_, by omega, fun _ => by omega⟩
        · rw [ex_cons, if_pos hw, Rat.natCast_add, ← e1, ← ej]; grind
        · rw [ex_cons, Rat.natCast_add, ← e2, ← ej]; grind
      · refine ⟨J, T + j, ?_, ?_, by omega, fun ⟨r, m, hr⟩ => ?_⟩
        · rw [ex_cons, if_neg hw, ← e1]; grind
        · rw [ex_cons, Rat.natCast_add, ← e2, ← ej]; grind
        · rcases List.mem_cons.mp m with q | m
          · rw [q] at hr; exact absurd hr hw
          · exact e4 ⟨r, m, hr⟩
  obtain ⟨J, T, e1, e2, e3, e4⟩ := main c.2 hs
  rw [h.bx.one, Rat.one_mul] at e2
  have eT : s = T := by exact_mod_cast e2
  exact ⟨s, J, e4 ⟨r, hr, hw⟩, by omega, s1, s2, e1⟩
theorem lb_over (h : Wf c) {w : Rat} : L 2 (over c.2 w) := by
  have e : over c.2 w = ((c.2.filter fun r => decide (w < r.1)).map (·.2)).sum := by
    rw [mass_eq, ex_filter (fun x => decide (w < x))]
    unfold over
    refine ex_congr fun r _ => ?_
    by_cases hw : w < r.1 <;> simp [hw]
  rw [e]
  exact L.sum (h.lb.sub _).snd (by rw [List.length_map]; exact Nat.le_trans (List.length_filter_le _ _) (by have := h.len; omega))
theorem belows_L (h : Wf c) : ∀ x ∈ belows c.1 c.2, L 1 x := fun x m => by
  obtain ⟨⟨r, hr, rfl⟩, _⟩ := belows_mem.mp m
  exact (h.lb r hr).1
theorem head_mem (h : Wf c) : hdR c.2 ∈ c.2 := by
  have hb := h.bx.ne
  cases e : c.2 with
  | nil => exact absurd e hb
  | cons a l => first | exact List.mem_cons_self | simp [hdR]
theorem reserve_L (h : Wf c) : L 7 (reserve c.1 c.2) := by
  have hl : c.2.length ≤ 64 := by have := h.len; omega
  unfold reserve
  by_cases hn : belows c.1 c.2 = []
  · rw [if_pos hn]
    have hm := (h.lb _ (head_mem h)).1
    exact ((hm.mono (by decide)).add ((beyond_L h.lb hm hl).sub (h.lc.mono (by decide)))).mono (by decide)
  · rw [if_neg hn]
    have hm := belows_L h _ (getLast_mem hn)
    obtain ⟨h1, h2⟩ := mark_props h.bx hn
    obtain ⟨r, hr, hw⟩ := beyond_pos h.bx (show 0 < beyond c.2 (lastR (belows c.1 c.2)) by have := h.pos; grind)
    exact ((hm.mono (by decide)).add (((beyond_L h.lb hm hl).sub (h.lc.mono (by decide))).div (over_sh h hr hw))).mono (by decide)
end
theorem at_neg {ds : List D} (h : ds ≠ []) : L2.atI ds (-1) = ds.getLast? := by
  have hl : 0 < ds.length := List.length_pos_iff.mpr h
  have e : L2.ixN ds.length (-1) = some (ds.length - 1) := by
    unfold L2.ixN
    rw [if_neg (by decide), if_pos (by omega)]
    congr 1
    omega
  simp only [L2.atI, e, Option.bind_some]
  rw [List.getLast?_eq_getElem?]
@[simp] theorem at_head {b : List Row} (h : b ≠ []) : L2.atI (b.map rowD) 0 = some (rowD (hdR b)) := by
  cases b with
  | nil => exact absurd rfl h
  | cons a l => first | exact List.mem_cons_self | simp [hdR]
theorem last_fr {xs : List Rat} (h : xs ≠ []) : (xs.map fr).getLast? = some (fr (lastR xs)) := by
  rw [List.getLast?_map]
  cases e : xs.getLast? with
  | none => simp at e; exact absurd e h
  | some y => simp [lastR, List.getLastD_eq_getLast?, e]
theorem pu_reserve_of {c : Cos} (h : Wf c) : Pu defs 6 i_reserve_of [cosD c] (fr (reserve c.1 c.2)) := by
  refine Pu.mk (df := ⟨1, 7, true, b_reserve_of⟩) rfl ⟨rfl, by decide⟩ fun k M hk => ?_
  have hl : c.2.length ≤ 64 := by have := h.len; omega
  simp only [b_reserve_of, ex_seq, List.replicate, cosD, List.map, List.cons_append, List.nil_append, ex_set, ev_var, lk_zero, Option.bind_some, kSet_ap, asg_cons, asg_nm, asg_nil, List.set, Option.map_some, kSq_nx, ex_setc, ev_comp, ei_seq, lk_succ, kSeq_ap]
  rw [show itOf M (boxD c.2) = some ⟨[], c.2.map rowD⟩ from rfl]
  simp only [Option.map_some, Option.bind_some, kCo_ap]
  rw [comp_if rowD (fun r => fr r.1) (fun r => !decide (beyond c.2 r.1 < c.1)) c.2 rfl ?_ ?_]
  rotate_left
  · intro r hr
    simp [rowD, wipeD]
    rw [(pu_beyond h.lb (h.lb r hr).1 (by decide) hl).at _ (by omega)]
    simp
    rw [(pu_is_below ((beyond_L h.lb (h.lb r hr).1 hl).ok (by decide)) (h.lc.ok (by decide))).at _ (by omega)]
    simp
  · intro r hr _
    simp [rowD, wipeD]
  have eb : ((c.2.filter fun r => !decide (beyond c.2 r.1 < c.1)).map fun r => fr r.1) = (belows c.1 c.2).map fr := by
    unfold belows; rw [List.map_map]; rfl
  have hbl : ((belows c.1 c.2).map fr).length ≤ lim := by
    rw [← eb, List.length_map]
    exact lim64 (Nat.le_trans (List.length_filter_le _ _) hl)
  rw [eb]
  simp only [Option.bind_some, kNew_ap, new_f hbl, kSetc_ap, List.set, kSq_nx, ex_set, ev_ite, et_cmp, ev_var, lk_succ, lk_zero, kCmp1_ap, ev_lis, es_nil, kLis_ap, new_f (show ([] : List D).length ≤ lim from Nat.zero_le _), kCmp2_ap, ne_nil, Option.map_some]
  by_cases hn : belows c.1 c.2 = []
  · have hm := (h.lb _ (head_mem h)).1
    simp [hn, boxD, at_head h.bx.ne, rowD]
    rw [show (D.tup (c.2.map rowD)) = boxD c.2 from rfl, (pu_beyond h.lb hm (by decide) hl).at _ (by omega)]
    simp
    rw [(pu_subtract ((beyond_L h.lb hm hl).ok (by decide)) (h.lc.ok (by decide))).at _ (by omega)]
    simp
    have hsub : L 5 (beyond c.2 (hdR c.2).1 - c.1) := (beyond_L h.lb hm hl).sub (h.lc.mono (by decide))
    rw [show (D.tup [.int 1, .int 1]) = fr 1 from rfl, (pu_divide (hsub.ok (by decide)) (dv_of Sh.one (L.one (k := 1)) (by decide))).at _ (by omega)]
    simp
    have hdiv := hsub.div Sh.one
    rw [(pu_add (hm.ok (by decide)) (hdiv.ok (by decide))).at _ (by omega)]
    have e1 : (1 : Rat)⁻¹ = 1 := Rat.inv_eq_of_mul_eq_one (by simp)
    simp [reserve, hn, Rat.div_def, e1]
  · have hm := belows_L h _ (getLast_mem hn)
    obtain ⟨h1, h2⟩ := mark_props h.bx hn
    obtain ⟨r, hr, hw⟩ := beyond_pos h.bx (show 0 < beyond c.2 (lastR (belows c.1 c.2)) by have := h.pos; grind)
    have hsh := over_sh h hr hw
    have hem : (belows c.1 c.2).isEmpty = false := by simpa using hn
    have hat : L2.atI ((belows c.1 c.2).map fr) (-1) = some (fr (lastR (belows c.1 c.2))) := by
      rw [at_neg (by simpa using hn), last_fr hn]
    have er : reserve c.1 c.2 = lastR (belows c.1 c.2) + (beyond c.2 (lastR (belows c.1 c.2)) - c.1) / over c.2 (lastR (belows c.1 c.2)) := by
      unfold reserve; rw [if_neg hn]
    rw [er]
    generalize lastR (belows c.1 c.2) = m at hm h1 h2 hsh hw hat
    simp [hem, hat]
    rw [(pu_at_most h.lb hm (by decide) hl).at _ (by omega)]
    simp
    rw [show (D.tup [.int 1, .int 1]) = fr 1 from rfl, (pu_subtract ((L.one (k := 1)).ok (by decide)) ((at_most_L h.lb hl (w := m)).ok (by decide))).at _ (by omega), over_atMost h.bx]
    simp
    rw [(pu_beyond h.lb hm (by decide) hl).at _ (by omega)]
    simp
    have hsub : L 5 (beyond c.2 m - c.1) := (beyond_L h.lb hm hl).sub (h.lc.mono (by decide))
    rw [(pu_subtract ((beyond_L h.lb hm hl).ok (by decide)) (h.lc.ok (by decide))).at _ (by omega)]
    simp
    rw [(pu_divide (hsub.ok (by decide)) (dv_of hsh (lb_over h) (by decide))).at _ (by omega)]
    simp
    rw [(pu_add (hm.ok (by decide)) ((hsub.div hsh).ok (by decide))).at _ (by omega)]
    simp
end X

set_option maxRecDepth 100000
namespace DL
open PySem
section
variable {M : Mm} {i : Int} {ds : List D} {b m : Bool} {d : D}
@[simp] theorem isi_i1 : semIsi M (.int i) [.int] = some true := rfl
@[simp] theorem isi_i2 : semIsi M (.int i) [.bool] = some false := rfl
@[simp] theorem isi_i3 : semIsi M (.int i) [.str] = some false := rfl
@[simp] theorem isi_i4 : semIsi M (.int i) [.tuple] = some false := rfl
@[simp] theorem isi_i5 : semIsi M (.int i) [.list] = some false := rfl
@[simp] theorem isi_b1 : semIsi M (.bl b) [.bool] = some true := rfl
@[simp] theorem isi_t1 : semIsi M (.tup ds) [.tuple] = some true := rfl
@[simp] theorem isi_t2 : semIsi M (.tup ds) [.list, .tuple] = some true := rfl
@[simp] theorem isi_t3 : semIsi M (.tup ds) [.bool] = some false := rfl
@[simp] theorem isi_t4 : semIsi M (.tup ds) [.int] = some false := rfl
@[simp] theorem isi_t5 : semIsi M (.tup ds) [.str] = some false := rfl
@[simp] theorem isi_t6 : semIsi M (.tup ds) [.list] = some false := rfl
@[simp] theorem isi_l1 : semIsi M (.lst ds) [.tuple] = some false := rfl
@[simp] theorem isi_l2 : semIsi M (.lst ds) [.list, .tuple] = some true := rfl
@[simp] theorem isi_l3 : semIsi M (.lst ds) [.bool] = some false := rfl
@[simp] theorem isi_l4 : semIsi M (.lst ds) [.int] = some false := rfl
@[simp] theorem isi_l5 : semIsi M (.lst ds) [.str] = some false := rfl
@[simp] theorem isi_l6 : semIsi M (.lst ds) [.list] = some true := rfl
theorem all_true (h : ∀ d ∈ ds, d = .bl true) : semB .all m [.lst ds] M = some (.bl true, M) := by
  have : ∀ ds : List D, (∀ d ∈ ds, d = .bl true) → ∃ bs, blsOf ds = some bs ∧ bs.all id = true := by
    intro ds
    induction ds with
    | nil => intro _; exact ⟨[], rfl, rfl⟩
    | cons d ds ih =>
      intro h
      obtain ⟨bs, e1, e2⟩ := ih fun x m => h x (List.mem_cons_of_mem _ m)
      have := h d List.mem_cons_self
      subst this
      exact ⟨true :: bs, by simp [blsOf, e1], by simp [e2]⟩
  obtain ⟨bs, e1, e2⟩ := this ds h
  simp [semB, e1]
  simpa using e2
theorem at_nat {n : Nat} (h : ds[n]? = some d) : L2.atI ds (n : Int) = some d := by
  have hl : n < ds.length := (List.getElem?_eq_some_iff.mp h).1
  have e : L2.ixN ds.length (n : Int) = some n := by
    unfold L2.ixN
    rw [if_pos (by omega), if_pos (by omega)]
    congr 1
  simp only [L2.atI, e, Option.bind_some, h]
theorem range_map (n : Nat) : rangeD 0 n = (List.range n).map fun i => D.int ((i : Nat) : Int) := by
  unfold rangeD
  apply List.map_congr_left
  intro i _
  rw [Int.zero_add]
theorem in62_small {i : Int} (h1 : 0 ≤ i) (h2 : i ≤ 1000000) : in62 i = true := by
  unfold in62
  rw [Bool.and_eq_true, decide_eq_true_eq, decide_eq_true_eq]
  omega
end
end DL
namespace X
open DL PySem
theorem pu_is_integer {i : Int} : Pu defs 1 i_is_integer [.int i] (.bl true) :=
  Pu.mk (df := ⟨1, 1, true, b_is_integer⟩) rfl ⟨rfl, by decide⟩ fun c M hc => by simp [b_is_integer]
theorem pu_is_tuple {ds : List D} {n : Int} (h : ds.length ≤ 64) : Pu defs 1 i_is_tuple [.tup ds, .int n] (.bl (decide ((ds.length : Int) = n))) :=
  Pu.mk (df := ⟨2, 2, true, b_is_tuple⟩) rfl ⟨rfl, by decide⟩ fun c M hc => by simp [b_is_tuple, len_tup (lim64 h)]
theorem pu_is_fraction {q : Rat} : Pu defs 2 i_is_fraction [fr q] (.bl true) := by
  refine Pu.mk (df := ⟨1, 2, true, b_is_fraction⟩) rfl ⟨rfl, by decide⟩ fun c M hc => ?_
  simp only [b_is_fraction, ex_seq, ex_ite, et_or, et_not, et_call, ev_call, es_cons, es_nil, ev_var, ev_con, List.replicate, List.map, List.cons_append, List.nil_append, lk_zero, Option.bind_some, kCs1_ap, kCs2_ap, kCall_ap]
  rw [show fr q = .tup [.int q.num, .int q.den] from rfl, (pu_is_tuple (by simp)).at _ hc]
  simp
  rw [show ([.int q.num, .int q.den] : List D) = [q.num, (q.den : Int)].map D.int from rfl, comp_yes D.int (fun _ => .bl true) _ rfl ?_]
  rotate_left
  · intro i _
    simp [wipeD]
    rw [pu_is_integer.at _ hc]
  simp
  rw [all_true (by simp)]
  have h1 : (0 : Int) < q.den := by have := q.den_pos; omega
  have h2 : (Nat.gcd q.num.natAbs q.den : Int) = 1 := by exact_mod_cast q.reduced
  simp [h1]
  simp [h2, q.den_pos]
theorem pu_is_box_row {r : Row} {k : Nat} (hr : L k r.2) (hk : k ≤ 100) (hp : 0 < r.2) : Pu defs 3 i_is_box_row [rowD r] (.bl true) := by
  refine Pu.mk (df := ⟨1, 1, true, b_is_box_row⟩) rfl ⟨rfl, by decide⟩ fun c M hc => ?_
  simp only [b_is_box_row, ex_seq, ex_ite, et_or, et_not, et_one, et_call, ev_call, es_cons, es_nil, ev_var, ev_con, List.replicate, List.map, List.cons_append, List.nil_append, lk_zero, Option.bind_some, kCs1_ap, kCs2_ap, kCall_ap, rowD]
  rw [(pu_is_tuple (by simp)).at _ (by omega)]
  simp
  rw [pu_is_fraction.at _ (by omega)]
  simp
  rw [pu_is_fraction.at _ (by omega)]
  simp
  rw [show (D.tup [.int 0, .int 1]) = fr 0 from rfl, (pu_is_below (L.zero (k := 1) |>.ok (by decide)) (hr.ok (by omega))).at _ (by omega)]
  simp [hp]
theorem pu_is_box {b : List Row} {k : Nat} (h : Bx b) (hb : LB k b) (hk : k ≤ 100) (hl : b.length ≤ 32) : Pu defs 4 i_is_box [boxD b] (.bl true) := by
  refine Pu.mk (df := ⟨1, 5, true, b_is_box⟩) rfl ⟨rfl, by decide⟩ fun c M hc => ?_
  have h1 : 1 ≤ b.length := List.length_pos_iff.mpr h.ne
  have hlen : semB .len false [boxD b] M = some (.int b.length, M) := by
    have := len_tup (M := M) (m := false) (ds := b.map rowD) (by rw [List.length_map]; exact lim64 (by omega))
    rwa [List.length_map] at this
  have i1 : semIsi M (boxD b) [.tuple] = some true := rfl
  have l1 : (1 : Int) ≤ b.length := by omega
  have l2 : (b.length : Int) ≤ 32 := by omega
  have lb : ∀ f : Row → D, (b.map f).length ≤ lim := fun f => by rw [List.length_map]; exact lim64 (by omega)
  simp only [b_is_box, ex_seq, ex_ite, et_or, et_not, et_one, et_isi, ev_var, lk_zero, List.replicate, List.map, List.cons_append, List.nil_append, Option.bind_some, kIsi_ap, i1, Option.map_some, kNotT_ap, Bool.not_true, kOrT_f, et_cmp2, ev_con, kC1_ap, ev_blt, es_cons, es_nil, kCs1_ap, kCs2_ap, kBlt_ap, hlen, kC2_ap, sc_le, decide_eq_true l1, decide_eq_true l2, kC22_t, ev_glo, kC23_ap, kIf_f, DL.ex_nil, kSq_nx, et_blt, ev_comp, ei_seq, kSeq_ap, kIf_f]
  rw [show itOf M (boxD b) = some ⟨[], b.map rowD⟩ from rfl]
  simp only [Option.map_some, Option.bind_some, kCo_ap]
  rw [comp_yes rowD (fun _ => .bl true) b rfl ?_]
  rotate_left
  · intro r hr
    simp [wipeD]
    rw [(pu_is_box_row (hb r hr).2 hk (h.pos r hr)).at _ (by omega)]
  simp only [Option.bind_some, kNew_ap, new_f (lb _), kCs1_ap, es_nil, kCs2_ap, kBlt_ap]
  rw [all_true (fun d hd => by obtain ⟨_, _, rfl⟩ := List.mem_map.mp hd; rfl)]
  simp only [Option.bind_some, kTr_ap, tr_bl, Option.map_some, kNotT_ap, Bool.not_true, kIf_f, DL.ex_nil, kSq_nx, ex_seq, ex_ite, et_not, et_blt, ev_blt, es_cons, es_nil, ev_comp, ei_r1, ev_op, ev_var, lk_zero, kCs1_ap, kCs2_ap, kBlt_ap, hlen, kOp1_ap, ev_con, kOp2_ap, so_sub, kR1_ap]
  rw [if_pos (in62_small (by omega) (by omega)), range_map, show ((b.length : Int) - 1).toNat = b.length - 1 by omega]
  simp only [Option.bind_some, kCo_ap]
  rw [comp_yes (fun i : Nat => D.int i) (fun _ => .bl true) (List.range (b.length - 1)) rfl ?_]
  rotate_left
  · intro i hi
    have hi' : i + 1 < b.length := by
      have := List.mem_range.mp hi
      omega
    have g1 : L2.atI (b.map rowD) (i : Int) = some (rowD b[i]) := at_nat (by rw [List.getElem?_map, List.getElem?_eq_getElem (by omega)]; rfl)
    have g2 : L2.atI (b.map rowD) ((i : Int) + 1) = some (rowD b[i + 1]) := by
      have := at_nat (ds := b.map rowD) (n := i + 1) (d := rowD b[i + 1]) (by rw [List.getElem?_map, List.getElem?_eq_getElem hi']; rfl)
      rwa [Int.natCast_add] at this
    have hlt := List.pairwise_iff_getElem.mp h.inc i (i + 1) (by omega) hi' (by omega)
    simp [wipeD, boxD, g1, g2, rowD]
    rw [(pu_is_below ((hb _ (List.getElem_mem (by omega))).1.ok (by omega)) ((hb _ (List.getElem_mem hi')).1.ok (by omega))).at _ (by omega)]
    simp [hlt]
  have lr : ((List.range (b.length - 1)).map fun _ => D.bl true).length ≤ lim := by rw [List.length_map, List.length_range]; exact lim64 (by omega)
  simp only [Option.bind_some, kNew_ap, new_f lr, kCs1_ap, es_nil, kCs2_ap, kBlt_ap]
  rw [all_true (fun d hd => by obtain ⟨_, _, rfl⟩ := List.mem_map.mp hd; rfl)]
  simp only [Option.bind_some, kTr_ap, tr_bl, Option.map_some, kNotT_ap, Bool.not_true, kIf_f, DL.ex_nil, kSq_nx, ex_seq, ex_ret, ev_cmp, et_cmp, ev_call, es_cons, ev_comp, ei_seq, ev_var, lk_zero, kSeq_ap]
  rw [show itOf M (boxD b) = some ⟨[], b.map rowD⟩ from rfl]
  simp only [Option.map_some, Option.bind_some, kCo_ap]
  rw [comp_yes rowD (fun r => fr r.2) b rfl ?_]
  rotate_left
  · intro r hr
    simp [rowD, wipeD]
  simp only [Option.bind_some, kNew_ap, new_f (lb _), kCs1_ap, es_nil, kCs2_ap, kCall_ap]
  have := (pu_sum hb.snd (by omega) (by rw [List.length_map]; omega)).at M (k := c) (by omega)
  rw [List.map_map] at this
  rw [show (b.map fun r => fr r.2) = b.map (fr ∘ fun r => r.2) from rfl, this, mass_eq, h.one]
  simp
  rw [show (D.tup [.int 1, .int 1]) = fr 1 from rfl, sc_eqf]
  simp
theorem pu_is_costly_box {c : Cos} (h : Wf c) : Pu defs 5 i_is_costly_box [cosD c] (.bl true) := by
  refine Pu.mk (df := ⟨1, 1, true, b_is_costly_box⟩) rfl ⟨rfl, by decide⟩ fun k M hk => ?_
  simp only [b_is_costly_box, ex_seq, ex_ret, ev_and, ev_call, es_cons, es_nil, ev_var, ev_con, List.replicate, List.map, List.cons_append, List.nil_append, lk_zero, Option.bind_some, kCs1_ap, kCs2_ap, kCall_ap, cosD]
  rw [(pu_is_tuple (by simp)).at _ (by omega)]
  simp
  rw [pu_is_fraction.at _ (by omega)]
  simp
  rw [show (D.tup [.int 0, .int 1]) = fr 0 from rfl, (pu_is_below (L.zero (k := 1) |>.ok (by decide)) (h.lc.ok (by decide))).at _ (by omega)]
  simp [h.pos]
  rw [(pu_is_box h.bx h.lb (by decide) (by have := h.len; omega)).at _ (by omega)]
  simp
theorem pu_check_costly {c : Cos} (h : Wf c) : Pu defs 6 i_check_costly [cosD c] .non := by
  intro k M hk
  cases k with
  | zero => omega
  | succ k =>
    have e : exS (callN defs k) b_check_costly [some (cosD c)] M = some (.nx, [some (cosD c)], M) := by
      simp [b_check_costly]
      rw [(pu_is_costly_box h).at _ (by omega)]
      simp
    show (match exS (callN defs k) b_check_costly [some (cosD c)] M with | some (.rt d, _, M') => retOf true M d M' | some (.nx, _, M') => retOf true M .non M' | _ => none) = _
    rw [e]
    simp [retOf]
theorem pu_reserve {c : Cos} (h : Wf c) : Pu defs 7 i_reserve [cosD c] (fr (reserve c.1 c.2)) := by
  refine Pu.mk (df := ⟨1, 1, true, b_reserve⟩) rfl ⟨rfl, by decide⟩ fun k M hk => ?_
  simp [b_reserve]
  rw [(pu_check_costly h).at _ (by omega)]
  simp
  rw [(pu_reserve_of h).at _ (by omega)]
  simp
end X

set_option maxRecDepth 100000
namespace X
/-! ### capped boxes -/
def rest (z : Rat) (b : List Row) : Rat := ((b.filter fun r => !decide (r.1 < z)).map (·.2)).sum
def capB (z : Rat) (b : List Row) : List Row := (b.filter fun r => decide (r.1 < z)) ++ [(z, rest z b)]
def lt' (x z : Rat) : Rat := if x < z then x else z
section
variable {b : List Row} {z : Rat} {f : Rat → Rat}
theorem ex_append {a b : List Row} : ex (a ++ b) f = ex a f + ex b f := by
  induction a with
  | nil => simp; grind
  | cons r a ih => rw [List.cons_append, ex_cons, ex_cons, ih]; grind
theorem rest_ex : rest z b = ex b (fun x => if x < z then 0 else 1) := by
  unfold rest
  rw [mass_eq, ex_filter (fun x => !decide (x < z))]
  refine ex_congr fun r _ => ?_
  by_cases h : r.1 < z <;> simp [h]
theorem ex_cap : ex (capB z b) f = ex b (fun x => f (lt' x z)) := by
  unfold capB
  rw [ex_append, ex_filter (fun x => decide (x < z)), ex_cons, ex_nil, rest_ex, Rat.add_zero]
  induction b with
  | nil => simp only [ex_nil]; grind
  | cons r b ih =>
    rw [ex_cons, ex_cons, ex_cons, ← ih]
    unfold lt'
    by_cases h : r.1 < z
    · simp [h]; grind
    · simp [h]; grind
theorem rest_pos (h : Bx b) {r : Row} (hr : r ∈ b) (hz : z ≤ r.1) : 0 < rest z b := by
  have h0 : ex b (fun _ => (0 : Rat)) < rest z b := by
    rw [rest_ex]
    refine ex_lt h.pos (fun r _ => ?_) hr ?_
    · split <;> grind
    · rw [if_neg (by grind)]; grind
  rwa [h.const] at h0
theorem cap_bx (h : Bx b) {r : Row} (hr : r ∈ b) (hz : z ≤ r.1) : Bx (capB z b) where
  ne := by unfold capB; simp
  inc := by
    unfold capB
    refine List.pairwise_append.mpr ⟨h.inc.filter _, by simp, fun s hs t ht => ?_⟩
    simp at ht
    rw [ht]
    simpa using (List.mem_filter.mp hs).2
  pos := fun s hs => by
    unfold capB at hs
    rcases List.mem_append.mp hs with m | m
    · exact h.pos s (List.mem_filter.mp m).1
    · simp at m; rw [m]; exact rest_pos h hr hz
  one := by rw [ex_cap]; exact h.one
theorem cap_len : (capB z b).length ≤ b.length + 1 := by
  unfold capB; simp; exact List.length_filter_le _ _
theorem cap_len' {r : Row} (hr : r ∈ b) (hz : z ≤ r.1) : (capB z b).length ≤ b.length := by
  have : (b.filter fun r => decide (r.1 < z)).length < b.length := by
    refine List.length_filter_lt_length_iff_exists.mpr ⟨r, hr, ?_⟩
    simp; grind
  unfold capB; simp; omega
theorem cap_mem {x : Rat} {s : Row} (hs : s ∈ capB z b) : s.1 ≤ z := by
  unfold capB at hs
  rcases List.mem_append.mp hs with m | m
  · exact Rat.le_of_lt (by simpa using (List.mem_filter.mp m).2)
  · simp at m; rw [m]; exact Rat.le_refl
end
/-- the capped box of a costly one -/
def cap (c : Cos) : List Row := capB (reserve c.1 c.2) c.2
section
variable {c : Cos}
theorem Wf.res (h : Wf c) : ∃ r ∈ c.2, reserve c.1 c.2 < r.1 := reserve_below h.bx h.pos
theorem Wf.cap (h : Wf c) : Bx (cap c) := let ⟨r, hr, hz⟩ := h.res; cap_bx h.bx hr (Rat.le_of_lt hz)
theorem cap_length (h : Wf c) : (cap c).length ≤ 3 := let ⟨r, hr, hz⟩ := h.res; Nat.le_trans (cap_len' hr (Rat.le_of_lt hz)) h.len
theorem rest_L (h : Wf c) {z : Rat} : L 2 (rest z c.2) := L.sum (h.lb.sub _).snd (by rw [List.length_map]; exact Nat.le_trans (List.length_filter_le _ _) (by have := h.len; omega))
theorem cap_L (h : Wf c) : LB 7 (cap c) := by
  intro r hr
  unfold X.cap capB at hr
  rcases List.mem_append.mp hr with m | m
  · have := h.lb r (List.mem_filter.mp m).1
    exact ⟨this.1.mono (by decide), this.2.mono (by decide)⟩
  · simp at m
    rw [m]
    exact ⟨reserve_L h, (rest_L h).mono (by decide)⟩
theorem cap_LC (h : Wf c) : ∀ r ∈ cap c, L 7 r.1 ∧ L 2 r.2 := by
  intro r hr
  unfold X.cap capB at hr
  rcases List.mem_append.mp hr with m | m
  · have := h.lb r (List.mem_filter.mp m).1
    exact ⟨this.1.mono (by decide), this.2.mono (by decide)⟩
  · simp at m
    rw [m]
    exact ⟨reserve_L h, rest_L h⟩
end
end X
namespace X
open DL PySem
theorem pu_capped_by {c : Cos} (h : Wf c) : Pu defs 4 i_capped_by [boxD c.2, fr (reserve c.1 c.2)] (boxD (cap c)) := by
  refine Pu.mk (df := ⟨2, 6, true, b_capped_by⟩) rfl ⟨rfl, by decide⟩ fun k M hk => ?_
  have hl : c.2.length ≤ 64 := by have := h.len; omega
  have hz := reserve_L h
  simp only [b_capped_by, ex_seq, ex_setc, ev_comp, ei_seq, ev_var, lk_zero, List.replicate, List.map, List.cons_append, List.nil_append, Option.bind_some, kSeq_ap]
  rw [show itOf M (boxD c.2) = some ⟨[], c.2.map rowD⟩ from rfl]
  simp only [Option.map_some, Option.bind_some, kCo_ap]
  rw [comp_if rowD rowD (fun r => decide (r.1 < reserve c.1 c.2)) c.2 rfl ?_ ?_]
  rotate_left
  · intro r hr
    simp [rowD, wipeD]
    rw [(pu_is_below ((h.lb r hr).1.ok (by decide)) (hz.ok (by decide))).at _ (by omega)]
    simp
  · intro r hr _
    simp [rowD, wipeD]
  have ll : ∀ (p : Row → Bool) (f : Row → D), ((c.2.filter p).map f).length ≤ lim := fun p f => by rw [List.length_map]; exact lim64 (Nat.le_trans (List.length_filter_le _ _) hl)
  simp only [Option.bind_some, kNew_ap, new_f (ll _ _), kSetc_ap, List.set, kSq_nx, ex_seq, ex_set, ev_call, es_cons, es_nil, ev_comp, ei_seq, ev_var, lk_zero, kSeq_ap]
  rw [show itOf M (boxD c.2) = some ⟨[], c.2.map rowD⟩ from rfl]
  simp only [Option.map_some, Option.bind_some, kCo_ap]
  rw [comp_if rowD (fun r => fr r.2) (fun r => !decide (r.1 < reserve c.1 c.2)) c.2 rfl ?_ ?_]
  rotate_left
  · intro r hr
    simp [rowD, wipeD]
    rw [(pu_is_below ((h.lb r hr).1.ok (by decide)) (hz.ok (by decide))).at _ (by omega)]
    simp
  · intro r hr _
    simp [rowD, wipeD]
  simp only [Option.bind_some, kNew_ap, new_f (ll _ _), kCs1_ap, es_nil, kCs2_ap, kCall_ap]
  have := (pu_sum (h.lb.sub fun r => !decide (r.1 < reserve c.1 c.2)).snd (by decide) (by rw [List.length_map]; exact Nat.le_trans (List.length_filter_le _ _) hl)).at M (k := k) (by omega)
  rw [List.map_map] at this
  rw [show ((c.2.filter fun r => !decide (r.1 < reserve c.1 c.2)).map fun r => fr r.2) = (c.2.filter fun r => !decide (r.1 < reserve c.1 c.2)).map (fr ∘ fun r => r.2) from rfl, this]
  obtain ⟨r, hr, hw⟩ := h.res
  have hp := rest_pos h.bx hr (Rat.le_of_lt hw)
  have hne : ¬ rest (reserve c.1 c.2) c.2 = 0 := fun z => by rw [z] at hp; exact Rat.lt_irrefl hp
  change ∃ env', ((((some (fr (rest (reserve c.1 c.2) c.2), M)) : Option (D × Mm)).bind _).bind _) = _
  simp [show (D.tup [.int 0, .int 1]) = fr 0 from rfl, hne]
  have hlen : ((c.2.filter fun r => decide (r.1 < reserve c.1 c.2)).length + 1) ≤ lim := lim64 (by
    have h1 := List.length_filter_le (fun r => decide (r.1 < reserve c.1 c.2)) c.2
    have h2 := h.len
    omega)
  simp [hlen, cap, capB, boxD, rowD]
theorem pu_capped_of {c : Cos} (h : Wf c) : Pu defs 7 i_capped_of [cosD c] (boxD (cap c)) := by
  refine Pu.mk (df := ⟨1, 1, true, b_capped_of⟩) rfl ⟨rfl, by decide⟩ fun k M hk => ?_
  have hr := (pu_reserve_of h).at M (k := k) (by omega)
  simp only [b_capped_of, List.replicate, List.map, List.cons_append, List.nil_append, ex_seq, ex_ret, ev_call, es_cons, ev_idx, ev_var, lk_zero, Option.bind_some, kIx1_ap, ev_con, kIx2_ap]
  rw [show semIx M (cosD c) (.int 1) = some (boxD c.2) by simp [cosD]]
  simp
  rw [hr]
  simp
  rw [(pu_capped_by h).at _ (by omega)]
  simp
theorem pu_capped {c : Cos} (h : Wf c) : Pu defs 8 i_capped [cosD c] (boxD (cap c)) := by
  refine Pu.mk (df := ⟨1, 1, true, b_capped⟩) rfl ⟨rfl, by decide⟩ fun k M hk => ?_
  simp [b_capped]
  rw [(pu_check_costly h).at _ (by omega)]
  simp
  rw [(pu_capped_of h).at _ (by omega)]
  simp
end X

set_option maxRecDepth 100000
namespace DL
open PySem
/-- a def that makes objects of its own and gives back a value -/
theorem Pu.mkF {defs : List Df} {n f : Nat} {args : List D} {res : D} {df : Df} (hd : defs[f]? = some df) (hl : args.length = df.np ∧ df.np ≤ df.ns) (hz : df.fz = true)
    (h : ∀ k M, n ≤ k → ∃ d env' X, exS (callN defs k) df.body (args.map some ++ List.replicate (df.ns - df.np) none) M = some (.rt d, env', M ++ X) ∧ X ≠ [] ∧ frz M.length (M ++ X) 8 d = some res) : Pu defs (n + 1) f args res := by
  intro k M hk
  cases k with
  | zero => omega
  | succ k =>
    obtain ⟨d, env', X, e, hX, e2⟩ := h k M (by omega)
    have ok : okTake M (M ++ X) = true := by
      unfold okTake
      rw [List.all_eq_true]
      intro i hi
      rw [List.getElem?_append_left (List.mem_range.mp hi)]
      simp
    simp only [callN, hd, hl, and_self, if_true, e, retOf, hz, ok, e2, Option.map_some]
    have hl : ¬ (M ++ X).length ≤ M.length := by
      rw [List.length_append]
      have := List.length_pos_iff.mpr hX
      omega
    rw [if_neg hl, List.take_left]
theorem cl_of {n : Nat} : ∀ ds : List D, (∀ d ∈ ds, cl n d = true) → cls n ds = true
  | [], _ => rfl
  | d :: ds, h => by
    simp only [cls, Bool.and_eq_true]
    exact ⟨h d List.mem_cons_self, cl_of ds fun e m => h e (List.mem_cons_of_mem _ m)⟩
theorem mapM_same {f : D → Option D} : ∀ ds : List D, (∀ d ∈ ds, f d = some d) → ds.mapM f = some ds
  | [], _ => rfl
  | d :: ds, h => by
    rw [List.mapM_cons, h d List.mem_cons_self, mapM_same ds fun e m => h e (List.mem_cons_of_mem _ m)]; rfl
theorem frz_cl {n k : Nat} {M : Mm} {d : D} (h : cl n d = true) : frz n M (k + 1) d = some d := by
  cases d <;> simp [frz, h]
theorem frz_ref {k : Nat} {M X : Mm} {ds : List D} (h : ∀ d ∈ ds, cl M.length d = true) (hx : X.head? = some (.lst ds)) : frz M.length (M ++ X) (k + 2) (.ref M.length) = some (.lst ds) := by
  have hg : (M ++ X)[M.length]? = some (.lst ds) := by
    rw [List.getElem?_append_right (Nat.le_refl _), Nat.sub_self]
    cases X with
    | nil => simp at hx
    | cons a l => simpa using hx
  rw [frz, if_neg (by simp [cl])]
  simp only [Nat.lt_irrefl, if_false, hg]
  rw [mapM_same ds fun d m => frz_cl (h d m)]
  rfl
end DL
namespace X
open DL PySem
theorem cl_fr {n : Nat} {q : Rat} : cl n (fr q) = true := rfl
end X
namespace DL
open PySem
section
variable {M : Mm} {ds : List D}
theorem get_last {o : MO} : (M ++ [o])[M.length]? = some o := by
  rw [List.getElem?_append_right (Nat.le_refl _), Nat.sub_self]; rfl
theorem set_last {o o' : MO} : (M ++ [o]).set M.length o' = M ++ [o'] := by
  rw [List.set_append_right _ _ (Nat.le_refl _), Nat.sub_self]; rfl
theorem it_last : itOf (M ++ [.lst ds]) (.ref M.length) = some ⟨[(M.length, ds)], ds⟩ := by
  simp [itOf, get_last]
theorem lo_last : lstOf (M ++ [.lst ds]) (.ref M.length) = some ds := by
  simp [lstOf, get_last]
theorem chk_last : chks [(M.length, ds)] (M ++ [.lst ds]) = true := by
  simp [chks, get_last]
theorem ins_last {i : Nat} {d : D} (h : ds.length < lim) (hi : i ≤ 1000) : semM .insert (M ++ [.lst ds]) (.ref M.length) [.int i, d] = some (.non, M ++ [.lst (ds.take i ++ [d] ++ ds.drop i)]) := by
  simp only [semM, get_last]
  rw [if_pos ⟨h, by omega, by omega⟩, set_last]
  simp
theorem app_last {d : D} (h : ds.length < lim) : semM .append (M ++ [.lst ds]) (.ref M.length) [d] = some (.non, M ++ [.lst (ds ++ [d])]) := by
  simp only [semM, get_last]
  rw [if_pos h, set_last]
theorem mo_ins : mthOk .insert (M ++ [.lst ds]) (.ref M.length) = true := by simp [mthOk, lo_last]
theorem mo_app : mthOk .append (M ++ [.lst ds]) (.ref M.length) = true := by simp [mthOk, lo_last]
end
end DL
namespace X
open DL PySem
def ins (y : Rat) (zs : List Rat) : List Rat := zs.take (zs.filter fun o => !decide (y < o)).length ++ [y] ++ zs.drop (zs.filter fun o => !decide (y < o)).length
def asc (xs : List Rat) : List Rat := xs.foldl (fun zs y => ins y zs) []
theorem ins_perm (y : Rat) (zs : List Rat) : (ins y zs).Perm (y :: zs) := by
  unfold ins
  generalize (zs.filter fun o => !decide (y < o)).length = n
  have h1 : (zs.take n ++ [y] ++ zs.drop n).Perm (y :: (zs.take n ++ zs.drop n)) := by
    rw [List.append_assoc]
    exact List.perm_middle
  rwa [List.take_append_drop] at h1
theorem split_sorted {y : Rat} : ∀ {zs : List Rat}, zs.Pairwise (· ≤ ·) → zs.take (zs.filter fun o => !decide (y < o)).length = zs.filter (fun o => !decide (y < o)) ∧ zs.drop (zs.filter fun o => !decide (y < o)).length = zs.filter (fun o => decide (y < o))
  | [], _ => by simp
  | z :: zs, h => by
    rw [List.pairwise_cons] at h
    by_cases hz : y < z
    · have all : ∀ o ∈ z :: zs, y < o := fun o m => by
        rcases List.mem_cons.mp m with e | m
        · rw [e]; exact hz
        · have := h.1 o m; grind
      have e1 : (z :: zs).filter (fun o => !decide (y < o)) = [] := List.filter_eq_nil_iff.mpr fun o m => by simp [all o m]
      have e2 : (z :: zs).filter (fun o => decide (y < o)) = z :: zs := List.filter_eq_self.mpr fun o m => by simp [all o m]
      rw [e1, e2]; simp
    · obtain ⟨i1, i2⟩ := split_sorted h.2 (y := y)
      rw [List.filter_cons_of_pos (by simp [hz]), List.filter_cons_of_neg (by simp [hz])]
      simp only [List.length_cons, List.take_succ_cons, List.drop_succ_cons, i1, i2]
      exact ⟨trivial, trivial⟩
theorem ins_sorted {y : Rat} {zs : List Rat} (h : zs.Pairwise (· ≤ ·)) : (ins y zs).Pairwise (· ≤ ·) := by
  obtain ⟨h1, h2⟩ := split_sorted h (y := y)
  unfold ins
  rw [h1, h2, List.append_assoc, List.pairwise_append]
  refine ⟨h.filter _, ?_, ?_⟩
  · rw [List.singleton_append, List.pairwise_cons]
    exact ⟨fun o m => Rat.le_of_lt (by simpa using (List.mem_filter.mp m).2), h.filter _⟩
  · intro a ha b hb
    have h3 : a ≤ y := Rat.not_lt.mp (by simpa using (List.mem_filter.mp ha).2)
    rcases List.mem_append.mp hb with m | m
    · simp at m; rw [m]; exact h3
    · have : y < b := by simpa using (List.mem_filter.mp m).2
      grind
theorem asc_props (xs : List Rat) : (asc xs).Perm xs ∧ (asc xs).Pairwise (· ≤ ·) := by
  unfold asc
  have : ∀ (ys zs : List Rat), zs.Pairwise (· ≤ ·) → (ys.foldl (fun zs y => ins y zs) zs).Perm (ys ++ zs) ∧ (ys.foldl (fun zs y => ins y zs) zs).Pairwise (· ≤ ·) := by
    intro ys
    induction ys with
    | nil => intro zs h; exact ⟨List.Perm.refl _, h⟩
    | cons y ys ih =>
      intro zs h
      obtain ⟨h1, h2⟩ := ih (ins y zs) (ins_sorted h)
      refine ⟨h1.trans ?_, h2⟩
      exact ((ins_perm y zs).append_left ys).trans List.perm_middle
  have := this xs [] List.Pairwise.nil
  rwa [List.append_nil] at this
theorem pu_ascending {xs : List Rat} {k : Nat} (h : ∀ x ∈ xs, L k x) (hk : k ≤ 100) (hl : xs.length ≤ 64) : Pu defs 3 i_ascending [.lst (xs.map fr)] (.lst ((asc xs).map fr)) := by
  refine Pu.mkF (df := ⟨1, 5, true, b_ascending⟩) rfl ⟨rfl, by decide⟩ rfl fun c M hc => ?_
  have loop : ∀ (ys zs : List Rat) (l o a b : Option D), (∀ x ∈ ys, L k x) → (∀ x ∈ zs, L k x) → zs.length + ys.length ≤ 64 →
      ∃ o' a', forGo (exS (callN defs c) (.seq (.set (.nm 3) (.blt .len false (.cons (.comp false (.nm 4) [4] (.iseq (.var 1)) (.not (.call i_is_below (.cons (.var 2) (.cons (.var 4) .nil)))) (.var 4)) .nil))) (.seq (.expr (.mth .insert false (.var 1) (.cons (.var 3) (.cons (.var 2) .nil)))) .nil))) (.nm 2) [] (ys.map fr) [l, some (.ref M.length), o, a, b] (M ++ [.lst (zs.map fr)])
        = some (.nx, [l, some (.ref M.length), o', a', b], M ++ [.lst ((ys.foldl (fun zs y => ins y zs) zs).map fr)]) := by
    intro ys
    induction ys with
    | nil => intro zs l o a b _ _ _; exact ⟨o, a, by simp⟩
    | cons y ys ih =>
      intro zs l o a b hy hz hlen
      simp at hlen
      have hin : ∀ x ∈ ins y zs, L k x := fun x m => by
        rcases List.mem_cons.mp ((ins_perm y zs).mem_iff.mp m) with e | m
        · rw [e]; exact hy y List.mem_cons_self
        · exact hz x m
      have hil : (ins y zs).length = zs.length + 1 := by rw [(ins_perm y zs).length_eq]; rfl
      obtain ⟨o', a', e⟩ := ih (ins y zs) l (some (fr y)) (some (.int ((zs.filter fun o => !decide (y < o)).length : Nat))) b (fun x m => hy x (List.mem_cons_of_mem _ m)) hin (by omega)
      refine ⟨o', a', ?_⟩
      rw [List.map_cons, for_cons]
      simp only [asg_nm, Option.bind_some, kTurn_ap, ex_seq, ex_set, ev_blt, es_cons, es_nil, ev_comp, ei_seq, ev_var, lk_zero, lk_succ, kSeq_ap, it_last, Option.map_some, kCo_ap, List.set]
      rw [comp_if fr fr (fun o => !decide (y < o)) zs chk_last ?_ ?_]
      rotate_left
      · intro r hr
        simp [wipeD]
        rw [(pu_is_below ((hy y List.mem_cons_self).ok (by omega)) ((hz r hr).ok (by omega))).at _ (by omega)]
        simp
      · intro r hr _
        simp [wipeD]
      have hf : ((zs.filter fun o => !decide (y < o)).map fr).length ≤ lim := by rw [List.length_map]; exact lim64 (Nat.le_trans (List.length_filter_le _ _) (by omega))
      simp only [Option.bind_some, kNew_ap, new_f hf, kCs1_ap, es_nil, kCs2_ap, kBlt_ap, len_lst hf, kSet_ap, asg_nm, List.set, Option.map_some, kSq_nx, ex_seq, ex_expr, ev_mth, ev_var, lk_zero, lk_succ, kMt1_ap, mo_ins, if_true, es_cons, kMt2_ap, List.length_map]
      rw [ins_last (by rw [List.length_map]; exact Nat.lt_of_lt_of_le (show zs.length < 64 by omega) (by decide)) (Nat.le_trans (List.length_filter_le _ _) (by omega))]
      simp only [Option.bind_some, kExp_ap, kSq_nx, DL.ex_nil, kLoop_nx]
      have em : (zs.map fr).take (zs.filter fun o => !decide (y < o)).length ++ [fr y] ++ (zs.map fr).drop (zs.filter fun o => !decide (y < o)).length = (ins y zs).map fr := by
        unfold ins; simp [List.map_take, List.map_drop]
      rw [em, e]
      rfl
  obtain ⟨o', a', e⟩ := loop xs [] (some (.lst (xs.map fr))) none none none h (fun x m => nomatch m) (by simpa using hl)
  refine ⟨.ref M.length, [some (.lst (xs.map fr)), some (.ref M.length), o', a', none], [.lst ((asc xs).map fr)], ?_, by simp, ?_⟩
  · simp only [b_ascending, List.replicate, List.map, List.cons_append, List.nil_append, ex_seq, ex_set, ev_lis, es_nil, Option.bind_some, kLis_ap, new_t (show ([] : List D).length ≤ lim from Nat.zero_le _), kSet_ap, asg_nm, List.set, Option.map_some, kSq_nx, ex_for, ei_seq, ev_var, lk_zero, kSeq_ap, it_lst, kFor_ap]
    have e' := e
    simp only [List.map] at e'
    rw [e']
    simp only [Option.bind_some, kSq_nx, ex_seq, ex_ret, ev_var, lk_zero, lk_succ, kRet_ap, kSq_rt]
    rfl
  · exact frz_ref (k := 6) (fun d m => by obtain ⟨q, _, rfl⟩ := List.mem_map.mp m; exact cl_fr) rfl
end X

set_option maxRecDepth 100000
namespace DL
open PySem
theorem comp2_map {α β : Type} {call : CallF} {t t1 : Tg} {own1 : List Nat} {it1 e : E} {env : En} {M : Mm} {src : List (Nat × List D)} (hs : chks src M = true) (g : α → D) (ys : α → List β) (g2 : β → D) (f : α → β → D) :
    ∀ (xs : List α) (acc : List D), (∀ x ∈ xs, ∃ env1, asg t (g x) env = some env1 ∧ evIt call it1 env1 M = some (⟨[], (ys x).map g2⟩, M) ∧ ∀ y ∈ ys x, (asg t1 (g2 y) (wipeD env1 own1)).bind (fun e2 => evE call e e2 M) = some (f x y, M)) →
    comp2Go (innerC call t1 own1 it1 e) t src env (xs.map g) acc M = some (acc ++ xs.flatMap (fun x => (ys x).map (f x)), M)
  | [], acc, _ => by simp [comp2Go, hs]
  | x :: xs, acc, h => by
    obtain ⟨env1, h1, h2, h3⟩ := h x List.mem_cons_self
    have ih := comp2_map hs g ys g2 f xs (acc ++ (ys x).map (f x)) fun y m => h y (List.mem_cons_of_mem _ m)
    rw [List.map_cons, comp2Go, if_pos hs, h1, Option.bind_some]
    unfold innerC
    rw [h2, Option.bind_some]
    rw [comp_map rfl g2 (f x) (fun _ => true) (ys x) acc (fun y m => by
      obtain ⟨e2, q1, q2⟩ := Option.bind_eq_some_iff.mp (h3 y m)
      exact ⟨e2, q1, rfl, fun _ => q2⟩), List.filter_eq_self.mpr (fun _ _ => rfl), Option.bind_some]
    show comp2Go (innerC call t1 own1 it1 e) t src env (xs.map g) (acc ++ (ys x).map (f x)) M = _
    rw [ih]
    simp
end DL
namespace X
open DL PySem
def unfr (d : D) : Rat := match d with | .tup [.int n, .int m] => mkRat n m.toNat | _ => 0
theorem unfr_fr (q : Rat) : unfr (fr q) = q := by
  unfold unfr fr
  simp
theorem pairs_fr (xs : List Rat) : pairs (xs.map fr) = true := by
  unfold pairs
  rw [List.all_eq_true]
  intro d hd
  obtain ⟨q, _, rfl⟩ := List.mem_map.mp hd
  rfl
theorem mem_dd {d : D} : ∀ {ds : List D}, d ∈ dedupD ds ↔ d ∈ ds
  | [] => by simp [dedupD]
  | e :: ds => by
    unfold dedupD
    by_cases h : e ∈ ds
    · rw [if_pos h, mem_dd, List.mem_cons]
      exact ⟨.inr, fun m => m.elim (fun q => by rw [q]; exact h) id⟩
    · rw [if_neg h, List.mem_cons, List.mem_cons, mem_dd]
theorem nodup_dd : ∀ ds : List D, (dedupD ds).Nodup
  | [] => List.nodup_nil
  | e :: ds => by
    unfold dedupD
    by_cases h : e ∈ ds
    · rw [if_pos h]; exact nodup_dd ds
    · rw [if_neg h]; exact List.nodup_cons.mpr ⟨fun m => h (mem_dd.mp m), nodup_dd ds⟩
theorem len_dd : ∀ ds : List D, (dedupD ds).length ≤ ds.length
  | [] => Nat.le_refl _
  | e :: ds => by
    unfold dedupD
    have := len_dd ds
    split <;> simp <;> omega
theorem sset_fr (xs : List Rat) (h : xs.length < 64) : ∃ vs : List Rat, (∀ M, semB .sortset false [.lst (xs.map fr)] M = some (.lst (vs.map fr), M)) ∧ vs.Nodup ∧ (∀ x, x ∈ vs ↔ x ∈ xs) ∧ vs.length ≤ xs.length := by
  have hp := List.mergeSort_perm (dedupD (xs.map fr)) leP
  have hfr : ∀ d ∈ sortP (dedupD (xs.map fr)), fr (unfr d) = d := fun d m => by
    obtain ⟨q, _, rfl⟩ := List.mem_map.mp (mem_dd.mp (hp.mem_iff.mp m))
    rw [unfr_fr]
  have e : ((sortP (dedupD (xs.map fr))).map unfr).map fr = sortP (dedupD (xs.map fr)) := by
    rw [List.map_map]
    conv => rhs; rw [← List.map_id (sortP (dedupD (xs.map fr)))]
    exact List.map_congr_left hfr
  have hl : (sortP (dedupD (xs.map fr))).length ≤ xs.length := by
    unfold sortP
    rw [hp.length_eq]
    have := len_dd (xs.map fr)
    rwa [List.length_map] at this
  refine ⟨(sortP (dedupD (xs.map fr))).map unfr, fun M => ?_, ?_, fun x => ?_, by rw [List.length_map]; exact hl⟩
  · rw [e]
    simp only [semB, lo_lst, Option.bind_eq_bind, Option.bind_some, pairs_fr, List.length_map, h, and_self, if_true]
    exact new_f (lim64 (by omega))
  · refine List.pairwise_map.mpr (List.Pairwise.imp_of_mem (fun {a b} ha hb hne he => hne ?_) (hp.nodup_iff.mpr (nodup_dd _)))
    rw [← hfr a ha, ← hfr b hb, he]
  · rw [List.mem_map]
    constructor
    · rintro ⟨d, m, rfl⟩
      obtain ⟨q, hq, rfl⟩ := List.mem_map.mp (mem_dd.mp (hp.mem_iff.mp m))
      rw [unfr_fr]; exact hq
    · intro hx
      exact ⟨fr x, hp.mem_iff.mpr (mem_dd.mpr (List.mem_map.mpr ⟨x, hx, rfl⟩)), unfr_fr x⟩
/-- the chance that all are at most w -/
def FF (bs : List (List Row)) (w : Rat) : Rat := prod (bs.map fun b => atMost b w)
def gr (bs : List (List Row)) : Rat → List Rat → List Row
  | _, [] => []
  | last, w :: ws => if FF bs w = last then gr bs last ws else (w, FF bs w - last) :: gr bs (FF bs w) ws
/-- the boxes of one greatest draw -/
structure Bs (bs : List (List Row)) : Prop where
  len : bs.length ≤ 4
  each : ∀ b ∈ bs, LB 7 b ∧ b.length ≤ 3
theorem FF_L {bs : List (List Row)} (h : Bs bs) {w : Rat} (hw : L 7 w) : L 64 (FF bs w) := by
  have : ∀ x ∈ bs.map (fun b => atMost b w), L 8 x := fun x m => by
    obtain ⟨b, hb, rfl⟩ := List.mem_map.mp m
    exact at_most_L (h.each b hb).1 (by have := (h.each b hb).2; omega)
  exact (pu_product_of this (by decide) (by rw [List.length_map]; have := h.len; omega)).2
theorem gr_mem {bs : List (List Row)} : ∀ {ws : List Rat} {last : Rat} {r : Row}, r ∈ gr bs last ws → r.1 ∈ ws
  | [], _, _, h => by simp [gr] at h
  | w :: ws, last, r, h => by
    unfold gr at h
    split at h
    · exact List.mem_cons_of_mem _ (gr_mem h)
    · rcases List.mem_cons.mp h with e | m
      · rw [e]; exact List.mem_cons_self
      · exact List.mem_cons_of_mem _ (gr_mem m)
theorem gr_len {bs : List (List Row)} : ∀ {ws : List Rat} {last : Rat}, (gr bs last ws).length ≤ ws.length
  | [], _ => by simp [gr]
  | w :: ws, last => by
    unfold gr
    split
    · have := gr_len (bs := bs) (ws := ws) (last := last); simp; omega
    · have := gr_len (bs := bs) (ws := ws) (last := FF bs w); simp; omega
theorem gr_L {bs : List (List Row)} (h : Bs bs) : ∀ {ws : List Rat} {last : Rat}, (∀ w ∈ ws, L 7 w) → L 64 last → LB 65 (gr bs last ws)
  | [], _, _, _ => fun r m => by simp [gr] at m
  | w :: ws, last, hw, hl => by
    have hF := FF_L h (hw w List.mem_cons_self)
    intro r m
    unfold gr at m
    split at m
    · exact gr_L h (fun x m => hw x (List.mem_cons_of_mem _ m)) hl r m
    · rcases List.mem_cons.mp m with e | m
      · rw [e]; exact ⟨(hw w List.mem_cons_self).mono (by decide), hF.sub hl⟩
      · exact gr_L h (fun x m => hw x (List.mem_cons_of_mem _ m)) hF r m
def worths (bs : List (List Row)) : List Rat := bs.flatMap fun b => b.map (·.1)
theorem worths_L {bs : List (List Row)} (h : Bs bs) : ∀ x ∈ worths bs, L 7 x := fun x m => by
  obtain ⟨b, hb, hx⟩ := List.mem_flatMap.mp m
  obtain ⟨r, hr, rfl⟩ := List.mem_map.mp hx
  exact ((h.each b hb).1 r hr).1
theorem worths_len {bs : List (List Row)} (h : Bs bs) : (worths bs).length ≤ 12 := by
  have : ∀ bs : List (List Row), (∀ b ∈ bs, b.length ≤ 3) → (worths bs).length ≤ 3 * bs.length := by
    intro bs
    induction bs with
    | nil => intro _; simp [worths]
    | cons b bs ih =>
      intro hb
      have h1 := ih fun c m => hb c (List.mem_cons_of_mem _ m)
      have h2 := hb b List.mem_cons_self
      unfold worths at h1 ⊢
      rw [List.flatMap_cons, List.length_append, List.length_map, List.length_cons]
      omega
  have h1 := this bs fun b m => (h.each b m).2
  have := h.len
  omega
theorem pu_greatest_of {bs : List (List Row)} (h : Bs bs) : ∃ ws : List Rat, ws.Pairwise (· < ·) ∧ (∀ x, x ∈ ws ↔ x ∈ worths bs) ∧ ws.length ≤ 12 ∧ Pu defs 6 i_greatest_of [.lst (bs.map boxD)] (boxD (gr bs 0 ws)) := by
  have hwl := worths_len h
  obtain ⟨vs, v1, v2, v3, v4⟩ := sset_fr (worths bs) (by omega)
  obtain ⟨a1, a2⟩ := asc_props vs
  have hL : ∀ x ∈ vs, L 7 x := fun x m => worths_L h x ((v3 x).mp m)
  have hasc : ∀ x ∈ asc vs, L 7 x := fun x m => hL x (a1.mem_iff.mp m)
  have hal : (asc vs).length ≤ 12 := by rw [a1.length_eq]; omega
  refine ⟨asc vs, ?_, fun x => by rw [a1.mem_iff, v3], hal, ?_⟩
  · have nd := a1.nodup_iff.mpr v2
    exact (List.pairwise_and_iff.mpr ⟨a2, nd⟩).imp fun {x y} z => Rat.lt_of_le_of_ne z.1 z.2
  refine Pu.mkF (df := ⟨1, 7, true, b_greatest_of⟩) rfl ⟨rfl, by decide⟩ rfl fun c M hc => ?_
  have hFs : ∀ w, L 7 w → ∀ x ∈ bs.map (fun b => atMost b w), L 8 x := fun w hw x m => by
    obtain ⟨b, hb, rfl⟩ := List.mem_map.mp m
    exact at_most_L (h.each b hb).1 (by have := (h.each b hb).2; omega)
  have hbl : ∀ f : List Row → D, (bs.map f).length ≤ lim := fun f => by rw [List.length_map]; exact lim64 (by have := h.len; omega)
  have loop : ∀ (ws : List Rat) (rs : List Row) (last : Rat) (l o a b d : Option D), l = some (.lst (bs.map boxD)) → (∀ w ∈ ws, L 7 w) → L 64 last → rs.length + ws.length ≤ 64 →
      ∃ o' a' last', forGo (exS (callN defs c) (.seq (.set (.nm 4) (.call i_product_of (.cons (.comp false (.nm 5) [5] (.iseq (.var 0)) .yes (.call i_at_most (.cons (.var 5) (.cons (.var 3) .nil)))) .nil))) (.seq (.ite (.cmp .ne (.var 4) (.var 2)) (.seq (.expr (.mth .append false (.var 1) (.cons (.tup (.cons (.var 3) (.cons (.call i_subtract (.cons (.var 4) (.cons (.var 2) .nil))) .nil))) .nil))) (.seq (.set (.nm 2) (.var 4)) .nil)) .nil) .nil))) (.nm 3) [] (ws.map fr) [l, some (.ref M.length), some (fr last), o, a, b, d] (M ++ [.lst (rs.map rowD)])
        = some (.nx, [l, some (.ref M.length), last', o', a', b, d], M ++ [.lst ((rs ++ gr bs last ws).map rowD)]) := by
    intro ws
    induction ws with
    | nil => intro rs last l o a b d _ _ _ _; exact ⟨o, a, some (fr last), by simp [gr]⟩
    | cons w ws ih =>
      intro rs last l o a b d hl hw hla hlen
      subst hl
      simp at hlen
      have hw1 := hw w List.mem_cons_self
      have hF := FF_L h hw1
      have body : ∀ (M' : Mm) (env : En), env = [some (.lst (bs.map boxD)), some (.ref M.length), some (fr last), some (fr w), a, b, d] → exS (callN defs c) (.set (.nm 4) (.call i_product_of (.cons (.comp false (.nm 5) [5] (.iseq (.var 0)) .yes (.call i_at_most (.cons (.var 5) (.cons (.var 3) .nil)))) .nil))) env M' = some (.nx, [some (.lst (bs.map boxD)), some (.ref M.length), some (fr last), some (fr w), some (fr (FF bs w)), b, d], M') := by
        rintro M' env rfl
        simp only [ex_set, ev_call, es_cons, es_nil, ev_comp, ei_seq, ev_var, lk_zero, kSeq_ap, it_lst, Option.bind_some, Option.map_some, kCo_ap]
        rw [comp_yes boxD (fun b => fr (atMost b w)) bs rfl ?_]
        rotate_left
        · intro b hb
          simp [wipeD]
          rw [(pu_at_most (h.each b hb).1 hw1 (by decide) (by have := (h.each b hb).2; omega)).at _ (by omega)]
        simp only [Option.bind_some, kNew_ap, new_f (hbl _), kCs1_ap, es_nil, kCs2_ap, kCall_ap]
        have := (pu_product_of (hFs w hw1) (by decide) (by rw [List.length_map]; have := h.len; omega)).1.at M' (k := c) (by omega)
        rw [List.map_map] at this
        rw [show (bs.map fun b => fr (atMost b w)) = bs.map (fr ∘ fun b => atMost b w) from rfl, this]
        simp [FF]
      rw [List.map_cons, for_cons]
      simp only [asg_nm, Option.bind_some, kTurn_ap, ex_seq, List.set]
      rw [body _ _ rfl]
      by_cases he : FF bs w = last
      · obtain ⟨o', a', last', e⟩ := ih rs last (some (.lst (bs.map boxD))) (some (fr w)) (some (fr (FF bs w))) b d rfl (fun x m => hw x (List.mem_cons_of_mem _ m)) hla (by omega)
        refine ⟨o', a', last', ?_⟩
        have eg : gr bs last (w :: ws) = gr bs last ws := by rw [gr, if_pos he]
        rw [eg, ← e]
        simp only [Option.bind_some, kSq_nx, ex_seq, ex_ite, et_cmp, ev_var, lk_zero, lk_succ, kCmp1_ap, kCmp2_ap, sc_nef, Option.map_some, decide_eq_true he, Bool.not_true, kIf_f, DL.ex_nil, kLoop_nx]
      · obtain ⟨o', a', last', e⟩ := ih (rs ++ [(w, FF bs w - last)]) (FF bs w) (some (.lst (bs.map boxD))) (some (fr w)) (some (fr (FF bs w))) b d rfl (fun x m => hw x (List.mem_cons_of_mem _ m)) hF (by simp; omega)
        refine ⟨o', a', last', ?_⟩
        have eg : gr bs last (w :: ws) = (w, FF bs w - last) :: gr bs (FF bs w) ws := by rw [gr, if_neg he]
        rw [List.append_assoc, List.singleton_append, ← eg] at e
        rw [← e]
        simp only [Option.bind_some, kSq_nx, ex_seq, ex_ite, et_cmp, ev_var, lk_zero, lk_succ, kCmp1_ap, kCmp2_ap, sc_nef, Option.map_some, decide_eq_false he, Bool.not_false, kIf_t, ex_expr, ev_mth, kMt1_ap, mo_app, if_true, es_cons, es_nil, ev_tup, ev_call, kCs1_ap, kCs2_ap, kCall_ap]
        rw [(pu_subtract (hF.ok (by decide)) (hla.ok (by decide))).at _ (by omega)]
        simp only [Option.bind_some, kCs1_ap, kCs2_ap, es_nil, kTup_ap, List.length_cons, List.length_nil, lim2, if_true, kMt2_ap, Nat.zero_add, Nat.reduceAdd]
        rw [app_last (by rw [List.length_map]; exact Nat.lt_of_lt_of_le (show rs.length < 64 by omega) (by decide))]
        simp only [Option.bind_some, kExp_ap, kSq_nx, ex_set, ev_var, lk_zero, lk_succ, kSet_ap, asg_nm, List.set, Option.map_some, DL.ex_nil, kLoop_nx]
        congr 1
        simp [rowD]
  obtain ⟨o', a', last', e⟩ := loop (asc vs) [] 0 (some (.lst (bs.map boxD))) none none none none rfl hasc L.zero (by simp; omega)
  refine ⟨boxD (gr bs 0 (asc vs)), [some (.lst (bs.map boxD)), some (.ref M.length), last', o', a', none, none], [.lst ((gr bs 0 (asc vs)).map rowD)], ?_, by simp, ?_⟩
  · simp only [b_greatest_of, List.replicate, List.map, List.cons_append, List.nil_append, ex_seq, ex_par, es_cons, ev_lis, es_nil, Option.bind_some, kLis_ap, new_t (show ([] : List D).length ≤ lim from Nat.zero_le _), kCs1_ap, ev_glo, kCs2_ap, kPar_ap, sets_cons, sets_nil, List.set, kSq_nx, ex_for, ei_seq, ev_call, ev_sset, ev_comp2, ev_var, lk_zero, kSeq_ap, it_lst, Option.map_some, kCo2_ap]
    rw [comp2_map rfl boxD (fun b => b) rowD (fun _ r => fr r.1) bs [] ?_]
    rotate_left
    · intro b hb
      refine ⟨_, by simp [wipeD]; rfl, by simp; rfl, fun r hr => by simp [rowD, wipeD]⟩
    have ew : ([] ++ bs.flatMap fun b => b.map fun r => fr r.1) = (worths bs).map fr := by
      unfold worths
      rw [List.nil_append, List.map_flatMap]
      simp [Function.comp_def]
    have hwl' : ((worths bs).map fr).length ≤ lim := by rw [List.length_map]; exact lim64 (by omega)
    rw [ew]
    simp only [Option.bind_some, kNew_ap, new_f hwl', kSset_ap, v1, kCs1_ap, es_nil, kCs2_ap, kCall_ap]
    rw [(pu_ascending hL (by decide) (by omega)).at _ (by omega)]
    simp only [Option.bind_some, kSeq_ap, it_lst, Option.map_some, kFor_ap]
    have e' := e
    simp only [List.map] at e'
    rw [show (D.tup [.int 0, .int 1]) = fr 0 from rfl, e']
    simp only [Option.bind_some, kSq_nx, ex_seq, ex_ret, ev_blt, es_cons, es_nil, ev_var, lk_zero, lk_succ, kCs1_ap, kCs2_ap, kBlt_ap, List.nil_append]
    have hg : (gr bs 0 (asc vs)).length ≤ lim := lim64 (by have := gr_len (bs := bs) (ws := asc vs) (last := 0); omega)
    simp [semB, lo_last, hg, boxD]
  · refine frz_cl (k := 7) ?_
    show cls M.length ((gr bs 0 (asc vs)).map rowD) = true
    exact cl_of _ fun d m => by
      obtain ⟨r, _, rfl⟩ := List.mem_map.mp m
      rfl
end X

set_option maxRecDepth 100000
namespace X
/-! ### the greatest of independent draws -/
/-- the mean of f at the greatest of y and a draw of each box -/
def EE : List (List Row) → (Rat → Rat) → Rat → Rat
  | [], f, y => f y
  | b :: bs, f, y => ex b fun x => EE bs f (gt y x)
/-- .. of the draws alone -/
def EM : List (List Row) → (Rat → Rat) → Rat
  | [], _ => 0
  | b :: bs, f => ex b fun x => EE bs f x
def em (bs : List (List Row)) (y : Rat) : Rat := EE bs (fun x => x) y
section
variable {bs : List (List Row)} {f g h : Rat → Rat} {y z : Rat}
theorem EE_add : ∀ {bs : List (List Row)} {y : Rat}, EE bs (fun x => f x + g x) y = EE bs f y + EE bs g y
  | [], y => rfl
  | b :: bs, y => by
    unfold EE
    rw [← ex_add]
    exact ex_congr fun r _ => EE_add
theorem EE_sub : ∀ {bs : List (List Row)} {y : Rat}, EE bs (fun x => f x - g x) y = EE bs f y - EE bs g y
  | [], y => rfl
  | b :: bs, y => by
    unfold EE
    rw [← ex_sub]
    exact ex_congr fun r _ => EE_sub
theorem EE_smul {c : Rat} : ∀ {bs : List (List Row)} {y : Rat}, EE bs (fun x => c * f x) y = c * EE bs f y
  | [], y => rfl
  | b :: bs, y => by
    unfold EE
    rw [← ex_smul]
    exact ex_congr fun r _ => EE_smul
theorem EM_add : EM bs (fun x => f x + g x) = EM bs f + EM bs g := by
  cases bs with
  | nil => unfold EM; grind
  | cons b bs =>
    unfold EM
    rw [← ex_add]
    exact ex_congr fun r _ => EE_add
theorem EM_sub : EM bs (fun x => f x - g x) = EM bs f - EM bs g := by
  cases bs with
  | nil => unfold EM; grind
  | cons b bs =>
    unfold EM
    rw [← ex_sub]
    exact ex_congr fun r _ => EE_sub
theorem EM_smul {c : Rat} : EM bs (fun x => c * f x) = c * EM bs f := by
  cases bs with
  | nil => unfold EM; grind
  | cons b bs =>
    unfold EM
    rw [← ex_smul]
    exact ex_congr fun r _ => EE_smul
theorem gt_mem (y x : Rat) : gt y x = y ∨ gt y x = x := by unfold gt; split <;> simp
theorem EE_congr : ∀ {bs : List (List Row)} {y : Rat}, (∀ v, v = y ∨ v ∈ worths bs → f v = g v) → EE bs f y = EE bs g y
  | [], y, hv => hv y (.inl rfl)
  | b :: bs, y, hv => by
    unfold EE
    refine ex_congr fun r hr => EE_congr fun v m => hv v ?_
    have hw : ∀ x ∈ worths bs, x ∈ worths (b :: bs) := fun x m => List.mem_flatMap.mpr (by
      obtain ⟨c, hc, hx⟩ := List.mem_flatMap.mp m
      exact ⟨c, List.mem_cons_of_mem _ hc, hx⟩)
    have hr' : r.1 ∈ worths (b :: bs) := List.mem_flatMap.mpr ⟨b, List.mem_cons_self, List.mem_map.mpr ⟨r, hr, rfl⟩⟩
    rcases m with e | m
    · rcases gt_mem y r.1 with q | q
      · left; rw [e, q]
      · right; rw [e, q]; exact hr'
    · exact .inr (hw v m)
theorem EM_congr (hv : ∀ v ∈ worths bs, f v = g v) : EM bs f = EM bs g := by
  cases bs with
  | nil => rfl
  | cons b bs =>
    unfold EM
    refine ex_congr fun r hr => EE_congr fun v m => hv v ?_
    rcases m with e | m
    · rw [e]; exact List.mem_flatMap.mpr ⟨b, List.mem_cons_self, List.mem_map.mpr ⟨r, hr, rfl⟩⟩
    · obtain ⟨c, hc, hx⟩ := List.mem_flatMap.mp m
      exact List.mem_flatMap.mpr ⟨c, List.mem_cons_of_mem _ hc, hx⟩
/-- at most w -/
def ph (w x : Rat) : Rat := if w < x then 0 else 1
theorem ph_gt (w y x : Rat) : ph w (gt y x) = ph w y * ph w x := by
  unfold ph gt
  by_cases h1 : y < x <;> by_cases h2 : w < y <;> by_cases h3 : w < x <;> simp [h1, h2, h3] <;> grind
theorem prod_cons (a : Rat) (l : List Rat) : prod (a :: l) = a * prod l := by
  unfold prod
  have : ∀ (l : List Rat) (z : Rat), l.foldl (· * ·) z = z * l.foldl (· * ·) 1 := by
    intro l
    induction l with
    | nil => intro z; simp
    | cons x l ih => intro z; rw [List.foldl_cons, List.foldl_cons, ih, ih (1 * x)]; grind
  rw [List.foldl_cons, Rat.one_mul, this]
theorem EE_ph {w : Rat} : ∀ {bs : List (List Row)} {y : Rat}, EE bs (ph w) y = ph w y * FF bs w
  | [], y => by unfold EE FF prod; simp
  | b :: bs, y => by
    unfold EE
    have e1 : FF (b :: bs) w = atMost b w * FF bs w := by unfold FF; rw [List.map_cons, prod_cons]
    rw [e1, atMost_ex]
    have e2 : ex b (fun x => EE bs (ph w) (gt y x)) = ex b (fun x => (ph w y * FF bs w) * ph w x) := ex_congr fun r _ => by rw [EE_ph, ph_gt]; grind
    rw [e2, ex_smul]
    show _ = ph w y * (ex b (ph w) * FF bs w)
    grind
theorem EM_ph {w : Rat} (hne : bs ≠ []) : EM bs (ph w) = FF bs w := by
  cases bs with
  | nil => exact absurd rfl hne
  | cons b bs =>
    unfold EM
    have e1 : FF (b :: bs) w = atMost b w * FF bs w := by unfold FF; rw [List.map_cons, prod_cons]
    have e2 : ex b (fun x => EE bs (ph w) x) = ex b (fun x => FF bs w * ph w x) := ex_congr fun r _ => by rw [EE_ph]; grind
    show (ex b fun x => EE bs (ph w) x) = _
    rw [e1, atMost_ex, e2, ex_smul, Rat.mul_comm]
    rfl
/-- sum of g over the steps of Φ -/
def tel (Φ g : Rat → Rat) : Rat → List Rat → Rat
  | _, [] => 0
  | prev, w :: ws => (Φ w - prev) * g w + tel Φ g (Φ w) ws
theorem ex_gr : ∀ {ws : List Rat} {last : Rat}, ex (gr bs last ws) g = tel (FF bs) g last ws
  | [], _ => rfl
  | w :: ws, last => by
    unfold gr tel
    by_cases h : FF bs w = last
    · rw [if_pos h, ex_gr, h]; grind
    · rw [if_neg h, ex_cons, ex_gr]
theorem tel_one {x : Rat} : ∀ {ws : List Rat}, (∀ w ∈ ws, x < w) → tel (fun w => ph w x) g 1 ws = 0
  | [], _ => rfl
  | w :: ws, h => by
    unfold tel
    have h1 : ph w x = 1 := by unfold ph; rw [if_neg (by have := h w List.mem_cons_self; grind)]
    rw [h1, tel_one fun v m => h v (List.mem_cons_of_mem _ m)]; grind
theorem tel_pt {x : Rat} : ∀ {ws : List Rat}, ws.Pairwise (· < ·) → x ∈ ws → tel (fun w => ph w x) g 0 ws = g x
  | [], _, h => by simp at h
  | w :: ws, hp, h => by
    rw [List.pairwise_cons] at hp
    unfold tel
    by_cases e : x = w
    · subst e
      have h1 : ph x x = 1 := by unfold ph; rw [if_neg Rat.lt_irrefl]
      rw [h1, tel_one hp.1]; grind
    · have m : x ∈ ws := (List.mem_cons.mp h).elim (fun q => absurd q e) id
      have h1 : ph w x = 0 := by unfold ph; rw [if_pos (hp.1 x m)]
      rw [h1, tel_pt hp.2 m]; grind
theorem tel_lin : ∀ {ws : List Rat} {p : Rat → Rat}, EM bs (fun x => tel (fun w => ph w x) g (p x) ws) = tel (fun w => EM bs (ph w)) g (EM bs p) ws
  | [], p => by
    show EM bs (fun _ => 0) = 0
    have := EM_smul (bs := bs) (f := fun _ => 0) (c := 0)
    simp at this
    exact this
  | w :: ws, p => by
    show EM bs (fun x => (ph w x - p x) * g w + tel (fun w => ph w x) g (ph w x) ws) = (EM bs (ph w) - EM bs p) * g w + tel (fun w => EM bs (ph w)) g (EM bs (ph w)) ws
    rw [EM_add, tel_lin (p := ph w)]
    have e : EM bs (fun x => (ph w x - p x) * g w) = EM bs (fun x => g w * (ph w x - p x)) := EM_congr fun v _ => Rat.mul_comm _ _
    rw [e, EM_smul, EM_sub, Rat.mul_comm]
/-- the greatest draw's box has the right means -/
theorem greatest_ex (hne : bs ≠ []) {ws : List Rat} (hs : ws.Pairwise (· < ·)) (hm : ∀ x, x ∈ ws ↔ x ∈ worths bs) : ex (gr bs 0 ws) g = EM bs g := by
  rw [ex_gr]
  have e1 : EM bs g = EM bs (fun x => tel (fun w => ph w x) g 0 ws) := EM_congr fun v m => (tel_pt hs ((hm v).mpr m)).symm
  rw [e1, tel_lin (p := fun _ => 0)]
  have e2 : EM bs (fun _ => 0) = 0 := by
    have := EM_smul (bs := bs) (f := fun _ => 0) (c := 0)
    simp at this
    exact this
  rw [e2]
  have : ∀ (ws : List Rat) (p : Rat), tel (FF bs) g p ws = tel (fun w => EM bs (ph w)) g p ws := by
    intro ws
    induction ws with
    | nil => intro p; rfl
    | cons w ws ih => intro p; unfold tel; rw [EM_ph hne, ih]
  exact this ws 0
theorem gt_assoc (x y z : Rat) : gt (gt x y) z = gt x (gt y z) := by
  unfold gt
  by_cases h1 : x < y <;> by_cases h2 : y < z <;> by_cases h3 : x < z <;> simp [h1, h2, h3] <;> grind
theorem EE_gt : ∀ {bs : List (List Row)} {x : Rat}, EE bs (gt y) x = EE bs (fun v => v) (gt y x)
  | [], x => rfl
  | b :: bs, x => by
    unfold EE
    refine ex_congr fun r _ => ?_
    rw [EE_gt, gt_assoc]
theorem drawn_gr (hne : bs ≠ []) {ws : List Rat} (hs : ws.Pairwise (· < ·)) (hm : ∀ x, x ∈ ws ↔ x ∈ worths bs) : drawn (gr bs 0 ws) y = em bs y := by
  rw [drawn_ex, greatest_ex hne hs hm]
  cases bs with
  | nil => exact absurd rfl hne
  | cons b bs =>
    unfold EM em
    exact ex_congr fun r _ => EE_gt
end
end X

set_option maxRecDepth 100000
namespace DL
open PySem
/-- a list or tuple that is read -/
structure Sq (M : Mm) (d : D) (xs : List D) : Prop where
  it : ∃ src, itOf M d = some ⟨src, xs⟩ ∧ chks src M = true
  sq : seqOf M d = some xs
  isi : semIsi M d [.list, .tuple] = some true
  ix : ∀ k, semIx M d (.int k) = L2.atI xs k
theorem Sq.lst {M : Mm} {xs : List D} : Sq M (.lst xs) xs := ⟨⟨[], rfl, rfl⟩, rfl, rfl, fun k => by simp⟩
theorem Sq.tup {M : Mm} {xs : List D} : Sq M (.tup xs) xs := ⟨⟨[], rfl, rfl⟩, rfl, rfl, fun k => by simp⟩
theorem Sq.ref {M : Mm} {n : Nat} {xs : List D} (h : M[n]? = some (.lst xs)) : Sq M (.ref n) xs :=
  ⟨⟨[(n, xs)], by simp [itOf, h], by simp [chks, h]⟩, by simp [seqOf, h], by simp [semIsi, tyOf, h, tyLe], fun k => by simp [semIx, dicOf, seqOf, intOf, h]⟩
theorem Sq.len {M : Mm} {d : D} {xs : List D} {m : Bool} (h : Sq M d xs) (hl : xs.length ≤ lim) : semB .len m [d] M = some (.int xs.length, M) := by
  simp [semB, h.sq, hl]
def PuM (defs : List Df) (n f : Nat) (args : List D) (M : Mm) (res : D) : Prop := ∀ k, n ≤ k → callN defs k f args M = some (res, M)
theorem PuM.at {defs : List Df} {n f : Nat} {args : List D} {M : Mm} {res : D} (h : PuM defs n f args M res) {k : Nat} (hk : n ≤ k) : callN defs k f args M = some (res, M) := h k hk
theorem PuM.mk {defs : List Df} {n f : Nat} {args : List D} {M : Mm} {res : D} {df : Df} (hd : defs[f]? = some df) (hl : args.length = df.np ∧ df.np ≤ df.ns) (h : ∀ k, n ≤ k → ∃ env', exS (callN defs k) df.body (args.map some ++ List.replicate (df.ns - df.np) none) M = some (.rt res, env', M)) : PuM defs (n + 1) f args M res := by
  intro k hk
  cases k with
  | zero => omega
  | succ k =>
    obtain ⟨env', e⟩ := h k (by omega)
    simp only [callN, hd, hl, and_self, if_true, e, retOf, Nat.le_refl]
/-- a def without a return -/
theorem PuM.mkN {defs : List Df} {n f : Nat} {args : List D} {M : Mm} {df : Df} (hd : defs[f]? = some df) (hl : args.length = df.np ∧ df.np ≤ df.ns) (h : ∀ k, n ≤ k → ∃ env', exS (callN defs k) df.body (args.map some ++ List.replicate (df.ns - df.np) none) M = some (.nx, env', M)) : PuM defs (n + 1) f args M .non := by
  intro k hk
  cases k with
  | zero => omega
  | succ k =>
    obtain ⟨env', e⟩ := h k (by omega)
    simp only [callN, hd, hl, and_self, if_true, e, retOf, Nat.le_refl]
end DL
namespace X
open DL PySem
theorem cap_lb (cs : List Cos) (h : ∀ c ∈ cs, Wf c) (hl : cs.length ≤ 4) : Bs (cs.map cap) :=
  ⟨by rw [List.length_map]; exact hl, fun b hb => by
    obtain ⟨c, hc, rfl⟩ := List.mem_map.mp hb
    exact ⟨cap_L (h c hc), cap_length (h c hc)⟩⟩
theorem ex_L {b : List Row} {f : Rat → Rat} {k k' : Nat} (hb : ∀ r ∈ b, L k r.2) (hf : ∀ r ∈ b, L k' (f r.1)) (hl : b.length ≤ 64) : L (k + k' + 1) (ex b f) := by
  refine L.sum (fun x hx => ?_) (by rw [List.length_map]; exact hl)
  obtain ⟨r, hr, rfl⟩ := List.mem_map.mp hx
  exact (hb r hr).mul (hf r hr)
/-- chances of a capped box: sums of at most 12 parts -/
theorem em_L {cs : List Cos} {k : Nat} : ∀ {y : Rat}, (∀ c ∈ cs, Wf c) → L k y → 7 ≤ k → L (3 * cs.length + k) (em (cs.map cap) y) := by
  induction cs with
  | nil => intro y _ hy _; exact hy.mono (by simp)
  | cons c cs ih =>
    intro y h hy hk
    have hc := h c List.mem_cons_self
    have := ex_L (b := cap c) (f := fun x => em (cs.map cap) (gt y x)) (k := 2) (k' := 3 * cs.length + k) (fun r hr => (cap_LC hc r hr).2) (fun r hr => ih (fun c m => h c (List.mem_cons_of_mem _ m)) (hy.gt ((cap_LC hc r hr).1.mono hk)) hk) (by have := cap_length hc; omega)
    refine L.mono (show L _ (em ((c :: cs).map cap) y) from this) ?_
    rw [List.length_cons]; omega
theorem m_opened_by {M : Mm} {d : D} {cs : List Cos} {y : Rat} {k : Nat} (hS : Sq M d (cs.map cosD)) (h : ∀ c ∈ cs, Wf c) (hl : cs.length ≤ 4) (hy : L k y) (hk : k ≤ 65) : PuM defs 8 i_opened_by [d, fr y] M (fr (em (cs.map cap) y)) := by
  refine PuM.mk (df := ⟨2, 3, true, b_opened_by⟩) rfl ⟨rfl, by decide⟩ fun c hc => ?_
  have hlen := hS.len (m := false) (by rw [List.length_map]; exact lim64 (by omega))
  rw [List.length_map] at hlen
  obtain ⟨src, hit, hchk⟩ := hS.it
  simp only [b_opened_by, List.replicate, List.map, List.cons_append, List.nil_append, ex_seq, ex_ite, et_cmp, ev_blt, es_cons, es_nil, ev_var, lk_zero, Option.bind_some, kCs1_ap, kCs2_ap, kBlt_ap, hlen, kCmp1_ap, ev_con, kCmp2_ap, sc_eqi, Option.map_some]
  by_cases h0 : cs = []
  · subst h0
    simp [em, EE]
  · have hne : ¬ ((cs.length : Int) = 0) := by
      have := List.length_pos_iff.mpr h0
      omega
    obtain ⟨ws, w1, w2, w3, w4⟩ := pu_greatest_of (cap_lb cs h hl)
    simp only [decide_eq_false hne, kIf_f, Option.bind_some, DL.ex_nil, kSq_nx, ex_seq, ex_ret, ev_call, es_cons, es_nil, ev_comp, ei_seq, ev_var, lk_zero, kSeq_ap, hit, Option.map_some, kCo_ap]
    rw [comp_yes cosD (fun c => boxD (cap c)) cs hchk ?_]
    rotate_left
    · intro c hc
      simp [wipeD]
      rw [(pu_capped_of (h c hc)).at _ (by omega)]
    simp only [Option.bind_some, kNew_ap, new_f (show (cs.map fun c => boxD (cap c)).length ≤ lim by rw [List.length_map]; exact lim64 (by omega)), kCs1_ap, es_nil, kCs2_ap, kCall_ap]
    have e1 : (cs.map fun c => boxD (cap c)) = (cs.map cap).map boxD := by rw [List.map_map]; rfl
    rw [e1, w4.at _ (by omega)]
    simp only [Option.bind_some, kCs1_ap, es_cons, ev_var, lk_succ, lk_zero, kCs2_ap, es_nil, kCall_ap]
    have hL : LB 65 (gr (cs.map cap) 0 ws) := gr_L (cap_lb cs h hl) (fun w m => worths_L (cap_lb cs h hl) w ((w2 w).mp m)) L.zero
    rw [(pu_drawn_by hL (hy.mono hk) (by decide) (by have := gr_len (bs := cs.map cap) (ws := ws) (last := 0); omega)).at _ (by omega), drawn_gr (by simpa using h0) w1 w2]
    simp
theorem m_check_opening {M : Mm} {d : D} {cs : List Cos} {y : Rat} (hS : Sq M d (cs.map cosD)) (h : ∀ c ∈ cs, Wf c) (hne : cs ≠ []) (hl : cs.length ≤ 4) : PuM defs 6 i_check_opening [d, fr y] M .non := by
  refine PuM.mkN (df := ⟨2, 3, true, b_check_opening⟩) rfl ⟨rfl, by decide⟩ fun c hc => ?_
  have hlen := hS.len (m := false) (by rw [List.length_map]; exact lim64 (by omega))
  rw [List.length_map] at hlen
  obtain ⟨src, hit, hchk⟩ := hS.it
  have p1 : (1 : Int) ≤ cs.length := by have := List.length_pos_iff.mpr hne; omega
  have p2 : (cs.length : Int) ≤ 4 := by omega
  have isl : PuM defs 1 i_is_list [d] M (.bl true) := PuM.mk (df := ⟨1, 1, true, b_is_list⟩) rfl ⟨rfl, by decide⟩ fun k _ => by simp [b_is_list, hS.isi]
  simp only [b_check_opening, List.replicate, List.map, List.cons_append, List.nil_append, ex_seq, ex_ite, et_or, et_not, et_call, ev_call, es_cons, es_nil, ev_var, lk_zero, Option.bind_some, kCs1_ap, kCs2_ap, kCall_ap]
  rw [isl.at (by omega)]
  simp only [Option.bind_some, kTr_ap, tr_bl, Option.map_some, kNotT_ap, Bool.not_true, kOrT_f, et_one, et_not, et_cmp2, ev_con, kC1_ap, ev_blt, es_cons, es_nil, ev_var, lk_zero, kCs1_ap, kCs2_ap, kBlt_ap, hlen, kC2_ap, sc_le, decide_eq_true p1, decide_eq_true p2, kC22_t, ev_glo, kC23_ap, kIf_f, DL.ex_nil, kSq_nx, ex_seq, ex_ite, et_blt, ev_comp, ei_seq, kSeq_ap, hit, kCo_ap]
  rw [comp_yes cosD (fun _ => .bl true) cs hchk ?_]
  rotate_left
  · intro c hc
    simp [wipeD]
    rw [(pu_is_costly_box (h c hc)).at _ (by omega)]
  simp only [Option.bind_some, kNew_ap, new_f (show (cs.map fun _ => D.bl true).length ≤ lim by rw [List.length_map]; exact lim64 (by omega)), kCs1_ap, es_nil, kCs2_ap, kBlt_ap]
  rw [all_true (fun d hd => by obtain ⟨_, _, rfl⟩ := List.mem_map.mp hd; rfl)]
  simp only [Option.bind_some, kTr_ap, tr_bl, Option.map_some, kNotT_ap, Bool.not_true, kIf_f, DL.ex_nil, kSq_nx, ex_seq, ex_ite, et_not, et_call, ev_call, es_cons, es_nil, ev_var, lk_succ, lk_zero, kCs1_ap, kCs2_ap, kCall_ap]
  rw [pu_is_fraction.at _ (by omega)]
  simp
theorem m_opening_worth {M : Mm} {d : D} {cs : List Cos} {y : Rat} {k : Nat} (hS : Sq M d (cs.map cosD)) (h : ∀ c ∈ cs, Wf c) (hne : cs ≠ []) (hl : cs.length ≤ 4) (hy : L k y) (hk : k ≤ 65) : PuM defs 9 i_opening_worth [d, fr y] M (fr (em (cs.map cap) y)) := by
  refine PuM.mk (df := ⟨2, 2, true, b_opening_worth⟩) rfl ⟨rfl, by decide⟩ fun c hc => ?_
  simp [b_opening_worth]
  rw [(m_check_opening hS h hne hl).at (by omega)]
  simp
  rw [(m_opened_by hS h hl hy hk).at (by omega)]
  simp
end X

set_option maxRecDepth 100000
namespace DL
open PySem
theorem enum_eq (n : Nat) (xs : List D) : enumD n xs = (xs.zipIdx n).map fun p => .tup [.int (p.2 : Nat), p.1] := by
  induction xs generalizing n with
  | nil => rfl
  | cons x xs ih => rw [enumD, List.zipIdx_cons, List.map_cons, ih]
theorem enum_map {α : Type} (g : α → D) (xs : List α) : enumD 0 (xs.map g) = xs.zipIdx.map fun p => .tup [.int (p.2 : Nat), g p.1] := by
  rw [enum_eq, List.zipIdx_map, List.map_map]; rfl
structure Sl (M : Mm) (d : D) (xs : List D) : Prop extends Sq M d xs where
  itl : ∃ src, itL M d = some ⟨src, xs⟩ ∧ chks src M = true
theorem Sl.lst {M : Mm} {xs : List D} : Sl M (.lst xs) xs := ⟨Sq.lst, ⟨[], rfl, rfl⟩⟩
theorem Sl.ref {M : Mm} {n : Nat} {xs : List D} (h : M[n]? = some (.lst xs)) : Sl M (.ref n) xs := ⟨Sq.ref h, ⟨[(n, xs)], by simp [itL, h], by simp [chks, h]⟩⟩
end DL
namespace X
open DL PySem
/-- the costly boxes at some places -/
def sel (cs : List Cos) (p : Nat → Bool) : List Cos := ((cs.zipIdx).filter fun q => p q.2).map (·.1)
theorem sel_mem {cs : List Cos} {p : Nat → Bool} : ∀ c ∈ sel cs p, c ∈ cs := fun c m => by
  obtain ⟨q, hq, rfl⟩ := List.mem_map.mp m
  have := (List.mem_filter.mp hq).1
  exact (List.fst_mem_of_mem_zipIdx this)
theorem sel_len {cs : List Cos} {p : Nat → Bool} : (sel cs p).length ≤ cs.length := by
  unfold sel
  rw [List.length_map]
  exact Nat.le_trans (List.length_filter_le _ _) (by rw [List.length_zipIdx]; exact Nat.le_refl _)
theorem zip_map (cs : List Cos) : (cs.map cosD).zipIdx = (cs.zipIdx).map fun p => (cosD p.1, p.2) := by
  rw [List.zipIdx_map]; rfl
/-- the worth of opening k first -/
def openW (cs : List Cos) (k : Nat) (c : Cos) (y : Rat) : Rat := ex c.2 (fun x => em ((sel cs fun i => !decide (i = k)).map cap) (gt y x)) - c.1
theorem m_worth_if_opened {M : Mm} {d : D} {cs : List Cos} {y : Rat} {n k : Nat} {c : Cos} (hS : Sl M d (cs.map cosD)) (h : ∀ c ∈ cs, Wf c) (hl : cs.length ≤ 4) (hy : L n y) (hn : n ≤ 65) (hn7 : 7 ≤ n) (hk : cs[k]? = some c) : PuM defs 10 i_worth_if_opened [d, fr y, .int (k : Nat)] M (fr (openW cs k c y)) := by
  refine PuM.mk (df := ⟨3, 11, true, b_worth_if_opened⟩) rfl ⟨rfl, by decide⟩ fun f hf => ?_
  have hkl : k < cs.length := (List.getElem?_eq_some_iff.mp hk).1
  have hne : cs ≠ [] := fun z => by subst z; simp at hkl
  have hc : Wf c := h c (List.mem_of_getElem? hk)
  have hlen := hS.len (m := false) (by rw [List.length_map]; exact lim64 (by omega))
  rw [List.length_map] at hlen
  obtain ⟨src, hit, hchk⟩ := hS.itl
  have isx : PuM defs 2 i_is_index [.int (k : Nat), .int (cs.length : Nat)] M (.bl true) := PuM.mk (df := ⟨2, 2, true, b_is_index⟩) rfl ⟨rfl, by decide⟩ fun f hf => by
    simp [b_is_index]
    rw [pu_is_integer.at _ (by omega)]
    simp [hkl]
  have hix : semIx M d (.int (k : Nat)) = some (.tup [fr c.1, boxD c.2]) := by
    rw [hS.ix]
    exact at_nat (by rw [List.getElem?_map, hk]; rfl)
  simp only [b_worth_if_opened, List.replicate, List.map, List.cons_append, List.nil_append, ex_seq, ex_expr, ev_call, es_cons, es_nil, ev_var, lk_zero, lk_succ, Option.bind_some, kCs1_ap, kCs2_ap, kCall_ap]
  rw [(m_check_opening hS.toSq h hne hl).at (by omega)]
  simp only [Option.bind_some, kExp_ap, kSq_nx, ex_seq, ex_ite, et_not, et_call, ev_call, es_cons, es_nil, ev_blt, ev_var, lk_zero, lk_succ, kCs1_ap, kCs2_ap, kBlt_ap, hlen, kCall_ap]
  rw [isx.at (by omega)]
  simp only [Option.bind_some, kTr_ap, tr_bl, Option.map_some, kNotT_ap, Bool.not_true, kIf_f, DL.ex_nil, kSq_nx, ex_seq, ex_set, ev_idx, ev_var, lk_zero, lk_succ, kIx1_ap, kIx2_ap, hix, kSet_ap]
  simp only [asg_cons, asg_nm, asg_nil, List.set, Option.bind_some, Option.map_some, kSq_nx, ex_seq, ex_set, ev_comp, ei_enum, ev_var, lk_zero, kEn_ap, hit, kCo_ap, enum_map]
  rw [comp_if (fun p : Cos × Nat => D.tup [.int (p.2 : Nat), cosD p.1]) (fun p => cosD p.1) (fun p => !decide (p.2 = k)) cs.zipIdx hchk ?_ ?_]
  rotate_left
  · intro p hp
    simp [wipeD]
    by_cases e : p.2 = k
    · simp [e]
    · have e' : ¬ ((p.2 : Int) = (k : Int)) := by omega
      simp [e, e']
  · intro p hp _
    simp [wipeD]
  have eo : ((cs.zipIdx.filter fun p => !decide (p.2 = k)).map fun p => cosD p.1) = (sel cs fun i => !decide (i = k)).map cosD := by
    unfold sel; rw [List.map_map]; rfl
  have hlo : ((sel cs fun i => !decide (i = k)).map cosD).length ≤ lim := by rw [List.length_map]; exact lim64 (Nat.le_trans sel_len (by omega))
  rw [eo]
  simp only [Option.bind_some, kNew_ap, new_f hlo, kSet_ap, asg_nm, List.set, Option.map_some, kSq_nx, ex_seq, ex_setc, ev_comp, ei_seq, ev_var, lk_zero, lk_succ, kSeq_ap]
  rw [show itOf M (boxD c.2) = some ⟨[], c.2.map rowD⟩ from rfl]
  simp only [Option.map_some, Option.bind_some, kCo_ap]
  have hs : ∀ c' ∈ sel cs (fun i => !decide (i = k)), Wf c' := fun c' m => h c' (sel_mem c' m)
  have hsl : (sel cs fun i => !decide (i = k)).length ≤ 4 := Nat.le_trans sel_len hl
  have hLe : ∀ r ∈ c.2, L (12 + n) (em ((sel cs fun i => !decide (i = k)).map cap) (gt y r.1)) := fun r hr =>
    (em_L hs (hy.gt ((hc.lb r hr).1.mono (by omega))) hn7).mono (by omega)
  rw [comp_yes rowD (fun r => fr (r.2 * em ((sel cs fun i => !decide (i = k)).map cap) (gt y r.1))) c.2 rfl ?_]
  rotate_left
  · intro r hr
    simp [rowD, wipeD]
    rw [(pu_greater_of (hy.ok (by omega)) ((hc.lb r hr).1.ok (by decide))).at _ (by omega)]
    simp
    rw [(m_opened_by Sq.lst hs hsl (hy.gt ((hc.lb r hr).1.mono (by omega))) hn).at (by omega)]
    simp
    rw [(pu_multiply ((hc.lb r hr).2.ok (by decide)) ((hLe r hr).ok (by omega))).at _ (by omega)]
  have hcl : c.2.length ≤ 64 := by have := hc.len; omega
  simp only [Option.bind_some, kNew_ap, new_f (show (c.2.map fun r => fr (r.2 * em ((sel cs fun i => !decide (i = k)).map cap) (gt y r.1))).length ≤ lim by rw [List.length_map]; exact lim64 hcl), kSetc_ap, List.set, kSq_nx, ex_seq, ex_ret, ev_call, es_cons, es_nil, ev_var, lk_zero, lk_succ, kCs1_ap, kCs2_ap, kCall_ap]
  have hxs : ∀ x ∈ c.2.map (fun r => r.2 * em ((sel cs fun i => !decide (i = k)).map cap) (gt y r.1)), L (13 + n) x := fun x m => by
    obtain ⟨r, hr, rfl⟩ := List.mem_map.mp m
    exact ((hc.lb r hr).2.mul (hLe r hr)).mono (by omega)
  have := (pu_sum hxs (by omega) (by rw [List.length_map]; exact hcl)).at M (k := f) (by omega)
  rw [List.map_map] at this
  rw [show (c.2.map fun r => fr (r.2 * em ((sel cs fun i => !decide (i = k)).map cap) (gt y r.1))) = c.2.map (fr ∘ fun r => r.2 * em ((sel cs fun i => !decide (i = k)).map cap) (gt y r.1)) from rfl, this]
  simp only [Option.bind_some, kCs1_ap, es_cons, ev_var, lk_zero, lk_succ, kCs2_ap, es_nil, kCall_ap]
  rw [(pu_subtract ((L.sum hxs (by rw [List.length_map]; exact hcl)).ok (by omega)) (hc.lc.ok (by decide))).at _ (by omega)]
  simp [openW, ex]
/-- places -/
def places (xs : List Rat) (x : Rat) : List Nat := ((xs.zipIdx).filter fun p => decide (p.1 = x)).map (·.2)
theorem m_places_of {M : Mm} {xs : List Rat} {x : Rat} (hl : xs.length ≤ 64) : ∀ k, 1 ≤ k → callN defs k i_places_of [.lst (xs.map fr), fr x] M = some (.ref M.length, M ++ [.lst ((places xs x).map fun i => .int (i : Nat))]) := by
  intro k hk
  obtain ⟨k, rfl⟩ : ∃ j, k = j + 1 := ⟨k - 1, by omega⟩
  have e : exS (callN defs k) b_places_of [some (.lst (xs.map fr)), some (fr x), none, none] M = some (.rt (.ref M.length), [some (.lst (xs.map fr)), some (fr x), none, none], M ++ [.lst ((places xs x).map fun i => .int (i : Nat))]) := by
    simp only [b_places_of, ex_seq, ex_ret, ev_comp, ei_enum, ev_var, lk_zero, Option.bind_some, kEn_ap, itL_lst, Option.map_some, kCo_ap, enum_map]
    rw [comp_if (fun p : Rat × Nat => D.tup [.int (p.2 : Nat), fr p.1]) (fun p => .int (p.2 : Nat)) (fun p => decide (p.1 = x)) xs.zipIdx rfl ?_ ?_]
    rotate_left
    · intro p hp
      simp [wipeD]
    · intro p hp _
      simp [wipeD]
    have el : ((xs.zipIdx.filter fun p => decide (p.1 = x)).map fun p => D.int (p.2 : Nat)) = (places xs x).map fun i => .int (i : Nat) := by
      unfold places; rw [List.map_map]; rfl
    have hll : ((places xs x).map fun i => D.int (i : Nat)).length ≤ lim := by
      rw [List.length_map]; unfold places; rw [List.length_map]
      exact lim64 (Nat.le_trans (List.length_filter_le _ _) (by rw [List.length_zipIdx]; exact hl))
    rw [el]
    simp only [Option.bind_some, kNew_ap, new_t hll, kRet_ap, kSq_rt]
  show (match exS (callN defs k) b_places_of [some (.lst (xs.map fr)), some (fr x), none, none] M with | some (.rt d, _, M') => retOf false M d M' | some (.nx, _, M') => retOf false M .non M' | _ => none) = _
  rw [e]
  simp [retOf]
def reserves (cs : List Cos) : List Rat := cs.map fun c => reserve c.1 c.2
theorem m_right_openings {M : Mm} {d : D} {cs : List Cos} {y : Rat} {n : Nat} (hS : Sq M d (cs.map cosD)) (h : ∀ c ∈ cs, Wf c) (hne : cs ≠ []) (hl : cs.length ≤ 4) (hy : L n y) (hn : n ≤ 65) : ∀ k, 8 ≤ k → callN defs k i_right_openings [d, fr y] M =
    some (.tup [.ref M.length, .bl (!decide (y < gts (reserves cs)))], M ++ [.lst ((if gts (reserves cs) < y then [] else places (reserves cs) (gts (reserves cs))).map fun i => .int (i : Nat))]) := by
  intro k hk
  obtain ⟨k, rfl⟩ : ∃ j, k = j + 1 := ⟨k - 1, by omega⟩
  obtain ⟨src, hit, hchk⟩ := hS.it
  have hR : ∀ x ∈ reserves cs, L 7 x := fun x m => by
    obtain ⟨c, hc, rfl⟩ := List.mem_map.mp m
    exact reserve_L (h c hc)
  have hrl : (reserves cs).length ≤ 64 := by unfold reserves; rw [List.length_map]; omega
  have hg : L 7 (gts (reserves cs)) := by
    cases e : reserves cs with
    | nil => exact L.zero
    | cons x xs => rw [e] at hR; exact L.foldl (hR x List.mem_cons_self) fun z m => hR z (List.mem_cons_of_mem _ m)
  have e : ∃ env', exS (callN defs k) b_right_openings [some d, some (fr y), none, none, none] M = some (.rt (.tup [.ref M.length, .bl (!decide (y < gts (reserves cs)))]), env', M ++ [.lst ((if gts (reserves cs) < y then [] else places (reserves cs) (gts (reserves cs))).map fun i => .int (i : Nat))]) := by
    simp only [b_right_openings, ex_seq, ex_expr, ev_call, es_cons, es_nil, ev_var, lk_zero, lk_succ, Option.bind_some, kCs1_ap, kCs2_ap, kCall_ap]
    rw [(m_check_opening hS h hne hl).at (by omega)]
    simp only [Option.bind_some, kExp_ap, kSq_nx, ex_seq, ex_setc, ev_comp, ei_seq, ev_var, lk_zero, kSeq_ap, hit, Option.map_some, kCo_ap]
    rw [comp_yes cosD (fun c => fr (reserve c.1 c.2)) cs hchk ?_]
    rotate_left
    · intro c hc
      simp [wipeD]
      rw [(pu_reserve_of (h c hc)).at _ (by omega)]
    have er : (cs.map fun c => fr (reserve c.1 c.2)) = (reserves cs).map fr := by unfold reserves; rw [List.map_map]; rfl
    rw [er]
    simp only [Option.bind_some, kNew_ap, new_f (show ((reserves cs).map fr).length ≤ lim by rw [List.length_map]; exact lim64 hrl), kSetc_ap, List.set, kSq_nx, ex_seq, ex_set, ev_call, es_cons, es_nil, ev_var, lk_zero, lk_succ, kCs1_ap, kCs2_ap, kCall_ap]
    have hgr : callN defs k i_greatest [.lst ((reserves cs).map fr)] M = some (fr (gts (reserves cs)), M) := by
      cases e : reserves cs with
      | nil => unfold reserves at e; simp at e; exact absurd e hne
      | cons x xs => rw [e] at hR; exact (pu_greatest hR (by decide)).at _ (by omega)
    rw [hgr]
    simp only [Option.bind_some, kSet_ap, asg_nm, List.set, Option.map_some, kSq_nx, ex_seq, ex_ret, ev_tup, es_cons, ev_ite, et_call, ev_call, es_nil, ev_var, lk_zero, lk_succ, kCs1_ap, kCs2_ap, kCall_ap]
    rw [(pu_is_below (hg.ok (by decide)) (hy.ok (by omega))).at _ (by omega)]
    by_cases hlt : gts (reserves cs) < y
    · simp only [Option.bind_some, kTr_ap, tr_bl, Option.map_some, decide_eq_true hlt, kIte_t, ev_lis, es_nil, kLis_ap, new_t (show ([] : List D).length ≤ lim from Nat.zero_le _), kCs1_ap, es_cons, ev_not, ev_call, ev_var, lk_zero, lk_succ, kCs2_ap, kCall_ap]
      rw [(pu_is_below (hy.ok (by omega)) (hg.ok (by decide))).at _ (by omega)]
      simp [hlt]
    · simp only [Option.bind_some, kTr_ap, tr_bl, Option.map_some, decide_eq_false hlt, kIte_f, ev_call, es_cons, es_nil, ev_var, lk_zero, lk_succ, kCs1_ap, kCs2_ap, kCall_ap]
      rw [m_places_of hrl k (by omega)]
      simp only [Option.bind_some, kCs1_ap, es_cons, ev_not, ev_call, ev_var, lk_zero, lk_succ, es_nil, kCs2_ap, kCall_ap]
      rw [(pu_is_below (hy.ok (by omega)) (hg.ok (by decide))).at _ (by omega)]
      simp [hlt]
  obtain ⟨env', e⟩ := e
  show (match exS (callN defs k) b_right_openings [some d, some (fr y), none, none, none] M with | some (.rt d, _, M') => retOf false M d M' | some (.nx, _, M') => retOf false M .non M' | _ => none) = _
  rw [e]
  simp [retOf]
end X

set_option maxRecDepth 100000
namespace X
/-! ### the greatest draw is a box -/
section
variable {b : List Row} {bs : List (List Row)} {w z y : Rat}
theorem atMost_nn (h : Bx b) : 0 ≤ atMost b w := by
  rw [atMost_ex]
  have h0 : ex b (fun _ => (0 : Rat)) ≤ ex b (fun x => if w < x then 0 else 1) := ex_le h.nn fun r _ => by split <;> grind
  rwa [h.const] at h0
theorem atMost_mono (h : Bx b) (hw : w ≤ z) : atMost b w ≤ atMost b z := by
  rw [atMost_ex, atMost_ex]
  exact ex_le h.nn fun r _ => by split <;> split <;> grind
theorem FF_nn : ∀ {bs : List (List Row)}, (∀ b ∈ bs, Bx b) → 0 ≤ FF bs w
  | [], _ => by unfold FF prod; simp; decide
  | b :: bs, h => by
    have e1 : FF (b :: bs) w = atMost b w * FF bs w := by unfold FF; rw [List.map_cons, prod_cons]
    rw [e1]
    exact Rat.mul_nonneg (atMost_nn (h b List.mem_cons_self)) (FF_nn fun c m => h c (List.mem_cons_of_mem _ m))
theorem FF_mono (hw : w ≤ z) : ∀ {bs : List (List Row)}, (∀ b ∈ bs, Bx b) → FF bs w ≤ FF bs z
  | [], _ => by unfold FF; exact Rat.le_refl
  | b :: bs, h => by
    have e1 : ∀ w, FF (b :: bs) w = atMost b w * FF bs w := fun w => by unfold FF; rw [List.map_cons, prod_cons]
    rw [e1, e1]
    have hb := h b List.mem_cons_self
    have ih := FF_mono hw fun c m => h c (List.mem_cons_of_mem _ m)
    have n1 := FF_nn (w := z) fun c m => h c (List.mem_cons_of_mem b m)
    have a1 := Rat.mul_le_mul_of_nonneg_left ih (atMost_nn (w := w) hb)
    have a2 := Rat.mul_le_mul_of_nonneg_right (atMost_mono hb hw) n1
    grind
theorem gr_pos (h : ∀ b ∈ bs, Bx b) : ∀ {ws : List Rat} {last : Rat}, ws.Pairwise (· < ·) → (∀ w ∈ ws, last ≤ FF bs w) → ∀ r ∈ gr bs last ws, 0 < r.2
  | [], _, _, _, r, m => by simp [gr] at m
  | w :: ws, last, hp, hl, r, m => by
    rw [List.pairwise_cons] at hp
    unfold gr at m
    split at m
    · exact gr_pos h hp.2 (fun v m => hl v (List.mem_cons_of_mem _ m)) r m
    · rename_i hne
      rcases List.mem_cons.mp m with e | m
      · rw [e]
        have h1 := hl w List.mem_cons_self
        have h2 : last < FF bs w := Rat.lt_of_le_of_ne h1 fun z => hne z.symm
        show 0 < FF bs w - last
        grind
      · exact gr_pos h hp.2 (fun v mv => FF_mono (Rat.le_of_lt (hp.1 v mv)) h) r m
theorem gr_inc : ∀ {ws : List Rat} {last : Rat}, ws.Pairwise (· < ·) → (gr bs last ws).Pairwise fun r s => r.1 < s.1
  | [], _, _ => by unfold gr; exact List.Pairwise.nil
  | w :: ws, last, hp => by
    rw [List.pairwise_cons] at hp
    unfold gr
    split
    · exact gr_inc hp.2
    · exact List.pairwise_cons.mpr ⟨fun s hs => hp.1 _ (gr_mem hs), gr_inc hp.2⟩
theorem EE_const {c : Rat} : ∀ {bs : List (List Row)} {y : Rat}, (∀ b ∈ bs, Bx b) → EE bs (fun _ => c) y = c
  | [], _, _ => rfl
  | b :: bs, y, h => by
    unfold EE
    have : ex b (fun x => EE bs (fun _ => c) (gt y x)) = ex b (fun _ => c) := ex_congr fun r _ => EE_const fun b m => h b (List.mem_cons_of_mem _ m)
    rw [this, (h b List.mem_cons_self).const]
theorem gr_bx (h : ∀ b ∈ bs, Bx b) (hne : bs ≠ []) {ws : List Rat} (hs : ws.Pairwise (· < ·)) (hm : ∀ x, x ∈ ws ↔ x ∈ worths bs) : Bx (gr bs 0 ws) := by
  have one : ex (gr bs 0 ws) (fun _ => 1) = 1 := by
    rw [greatest_ex hne hs hm]
    cases bs with
    | nil => exact absurd rfl hne
    | cons b bs =>
      show ex b (fun x => EE bs (fun _ => 1) x) = 1
      have : ex b (fun x => EE bs (fun _ => 1) x) = ex b (fun _ => 1) := ex_congr fun r _ => EE_const fun b m => h b (List.mem_cons_of_mem _ m)
      rw [this, (h b List.mem_cons_self).one]
  exact ⟨fun z => by rw [z] at one; simp at one, gr_inc hs, gr_pos h hs fun w _ => FF_nn h, one⟩
end
end X
namespace X
open DL PySem
theorem sort_fr (xs : List Rat) (h : xs.length ≤ 64) : ∃ ws : List Rat, (∀ M, semB .sorted false [.lst (xs.map fr)] M = some (.lst (ws.map fr), M)) ∧ ws.Perm xs := by
  have hp := List.mergeSort_perm (xs.map fr) leP
  have hfr : ∀ d ∈ sortP (xs.map fr), fr (unfr d) = d := fun d m => by
    obtain ⟨q, _, rfl⟩ := List.mem_map.mp (hp.mem_iff.mp m)
    rw [unfr_fr]
  have e : ((sortP (xs.map fr)).map unfr).map fr = sortP (xs.map fr) := by
    rw [List.map_map]
    conv => rhs; rw [← List.map_id (sortP (xs.map fr))]
    exact List.map_congr_left hfr
  refine ⟨(sortP (xs.map fr)).map unfr, fun M => ?_, ?_⟩
  · rw [e]
    simp only [semB, lo_lst, Option.bind_eq_bind, Option.bind_some, pairs_fr, if_true]
    exact new_f (by unfold sortP; rw [hp.length_eq, List.length_map]; exact lim64 h)
  · have := hp.map unfr
    rw [List.map_map] at this
    have e2 : xs.map (unfr ∘ fr) = xs := by
      conv => rhs; rw [← List.map_id xs]
      exact List.map_congr_left fun q _ => unfr_fr q
    rwa [e2] at this
def fall (a b : List Row) (y : Rat) : Rat := drawn a y - drawn b y
section
variable {k : Nat} {a b : List Row} {y : Rat}
theorem fall_L (ha : LB k a) (hb : LB k b) (hy : L k y) (la : a.length ≤ 64) (lb : b.length ≤ 64) : L (k + k + 2) (fall a b y) := (drawn_L ha hy la).sub (drawn_L hb hy lb)
theorem pu_fall_at (ha : LB k a) (hb : LB k b) (hy : L k y) (hk : k ≤ 70) (la : a.length ≤ 64) (lb : b.length ≤ 64) : Pu defs 5 i_fall_at [boxD a, boxD b, fr y] (fr (fall a b y)) := by
  refine Pu.mk (df := ⟨3, 3, true, b_fall_at⟩) rfl ⟨rfl, by decide⟩ fun c M hc => ?_
  simp [b_fall_at, List.replicate]
  rw [(pu_drawn_by ha hy hk la).at _ (by omega)]
  simp
  rw [(pu_drawn_by hb hy hk lb).at _ (by omega)]
  simp
  rw [(pu_subtract ((drawn_L ha hy la).ok (by omega)) ((drawn_L hb hy lb).ok (by omega))).at _ (by omega)]
  simp [fall]
end
/-- what the greatest fall is -/
structure Harm (a b : List Row) (v o : Rat) : Prop where
  mem : o ∈ worths [a, b]
  at_ : v = fall a b o
  max : ∀ w ∈ worths [a, b], fall a b w ≤ v
def bestD : Option (Rat × Rat) → D
  | none => .non
  | some p => .tup [fr p.1, fr p.2]
def updH (a b : List Row) (best : Option (Rat × Rat)) (w : Rat) : Option (Rat × Rat) := match best with
  | none => some (fall a b w, w)
  | some z => if z.1 < fall a b w then some (fall a b w, w) else some z
theorem updH_none {a b : List Row} {w : Rat} : updH a b none w = some (fall a b w, w) := rfl
theorem updH_some {a b : List Row} {w : Rat} {z : Rat × Rat} : updH a b (some z) w = if z.1 < fall a b w then some (fall a b w, w) else some z := rfl
theorem harm_loop {a b : List Row} (la : LB 7 a) (lb : LB 7 b) (na : a.length ≤ 64) (nb : b.length ≤ 64) {k : Nat} {M : Mm} (hk : 7 ≤ k) : ∀ (us : List Rat) (best : Option (Rat × Rat)) (x0 x1 y z c e f : Option D), (∀ w ∈ us, L 7 w) → (∀ z, best = some z → L 16 z.1) →
      ∃ o' a', forGo (exS (callN defs k) (.seq (.set (.nm 5) (.call i_fall_at (.cons (.idx (.var 2) (.con (.int 0))) (.cons (.idx (.var 2) (.con (.int 1))) (.cons (.var 4) .nil))))) (.seq (.ite (.or (.cmp .is (.var 3) (.con (.non))) (.one (.call i_is_below (.cons (.idx (.var 3) (.con (.int 0))) (.cons (.var 5) .nil))))) (.seq (.set (.nm 3) (.tup (.cons (.var 5) (.cons (.var 4) .nil)))) .nil) .nil) .nil))) (.nm 4) [] (us.map fr) [x0, x1, some (.lst [boxD a, boxD b]), some (bestD best), y, z, c, e, f] M
        = some (.nx, [x0, x1, some (.lst [boxD a, boxD b]), some (bestD (us.foldl (updH a b) best)), o', a', c, e, f], M)
  | [], best, x0, x1, y, z, c, e, f, _, _ => ⟨y, z, by simp⟩
  | w :: us, best, x0, x1, y, z, c, e, f, hw, hb => by
    have hw1 := hw w List.mem_cons_self
    have fw : L 16 (fall a b w) := (fall_L la lb hw1 na nb).mono (by decide)
    have hb' : ∀ z, updH a b best w = some z → L 16 z.1 := fun z hz => by
      cases best with
      | none => rw [updH_none] at hz; cases hz; exact fw
      | some u =>
        rw [updH_some] at hz
        split at hz
        · cases hz; exact fw
        · have := Option.some.inj hz
          rw [← this]
          exact hb u rfl
    obtain ⟨o', a', e1⟩ := harm_loop la lb na nb (M := M) hk us (updH a b best w) x0 x1 (some (fr w)) (some (fr (fall a b w))) c e f (fun v m => hw v (List.mem_cons_of_mem _ m)) hb'
    refine ⟨o', a', ?_⟩
    rw [List.map_cons, for_cons]
    simp only [asg_nm, Option.bind_some, kTurn_ap, ex_seq, ex_set, ev_call, es_cons, es_nil, ev_idx, ev_var, lk_zero, lk_succ, kIx1_ap, ev_con, kIx2_ap, ix_lst, at_0, at_1, Option.map_some, kCs1_ap, kCs2_ap, kCall_ap, List.set]
    rw [(pu_fall_at la lb hw1 (by decide) na nb).at _ (by omega)]
    rw [List.foldl_cons, ← e1]
    cases best with
    | none => simp [bestD, semC, isD, updH_none]
    | some z =>
      have hz := hb z rfl
      have isn : semC M .is (bestD (some z)) .non = some false := by simp [semC, isD, bestD]
      have ixz : semIx M (bestD (some z)) (.int 0) = some (fr z.1) := by simp [bestD]
      simp only [Option.bind_some, kSet_ap, asg_nm, List.set, Option.map_some, kSq_nx, ex_seq, ex_ite, et_or, et_cmp, ev_var, lk_zero, lk_succ, kCmp1_ap, ev_con, kCmp2_ap, isn, kOrT_f, et_one, et_call, ev_call, es_cons, es_nil, ev_idx, kIx1_ap, kIx2_ap, ixz, kCs1_ap, kCs2_ap, kCall_ap]
      rw [(pu_is_below (hz.ok (by decide)) (fw.ok (by decide))).at _ (by omega)]
      by_cases hlt : z.1 < fall a b w
      · simp [hlt, updH_some, bestD]
      · simp [hlt, updH_some, bestD]
theorem harm_fold {a b : List Row} {S : Rat → Prop} : ∀ (us : List Rat) (z : Rat × Rat), (S z.2 ∧ z.1 = fall a b z.2) → (∀ w ∈ us, S w) → ∃ z', us.foldl (updH a b) (some z) = some z' ∧ S z'.2 ∧ z'.1 = fall a b z'.2 ∧ z.1 ≤ z'.1 ∧ ∀ w ∈ us, fall a b w ≤ z'.1
  | [], z, h, _ => ⟨z, rfl, h.1, h.2, Rat.le_refl, fun _ m => nomatch m⟩
  | w :: us, z, h, hw => by
    rw [List.foldl_cons, updH_some]
    by_cases hlt : z.1 < fall a b w
    · obtain ⟨z', e, h1, h2, h3, h4⟩ := harm_fold (a := a) (b := b) us (fall a b w, w) ⟨hw w List.mem_cons_self, rfl⟩ fun v m => hw v (List.mem_cons_of_mem _ m)
      refine ⟨z', by rw [if_pos hlt]; exact e, h1, h2, Rat.le_trans (Rat.le_of_lt hlt) h3, fun v m => ?_⟩
      rcases List.mem_cons.mp m with q | m
      · rw [q]; exact h3
      · exact h4 v m
    · obtain ⟨z', e, h1, h2, h3, h4⟩ := harm_fold (a := a) (b := b) us z h fun v m => hw v (List.mem_cons_of_mem _ m)
      refine ⟨z', by rw [if_neg hlt]; exact e, h1, h2, h3, fun v m => ?_⟩
      rcases List.mem_cons.mp m with q | m
      · rw [q]; exact Rat.le_trans (Rat.not_lt.mp hlt) h3
      · exact h4 v m
theorem worths2_L {p q : Cos} (hp : Wf p) (hq : Wf q) : ∀ w ∈ worths [cap p, cap q], L 7 w := fun w m => by
  obtain ⟨b, hb, hx⟩ := List.mem_flatMap.mp m
  obtain ⟨r, hr, rfl⟩ := List.mem_map.mp hx
  simp at hb
  rcases hb with rfl | rfl
  · exact (cap_L hp r hr).1
  · exact (cap_L hq r hr).1
theorem worths2_ne {p q : Cos} (hp : Wf p) : worths [cap p, cap q] ≠ [] := fun z => by
  have hne := hp.cap.ne
  cases e : cap p with
  | nil => exact hne e
  | cons r l => rw [e] at z; simp [worths] at z
theorem worths2_len {p q : Cos} (hp : Wf p) (hq : Wf q) : (worths [cap p, cap q]).length ≤ 64 := by
  unfold worths
  simp
  have := cap_length hp
  have := cap_length hq
  omega
theorem run_harm {p q : Cos} (hp : Wf p) (hq : Wf q) {ws : List Rat} (s1 : ∀ M, semB .sorted false [.lst ((worths [cap p, cap q]).map fr)] M = some (.lst (ws.map fr), M)) (hwL : ∀ w ∈ ws, L 7 w) {v o : Rat} (ef : ws.foldl (updH (cap p) (cap q)) none = some (v, o)) :
    Pu defs 8 i_opening_harm_of [cosD p, cosD q] (.tup [fr v, fr o]) := by
  refine Pu.mk (df := ⟨2, 9, true, b_opening_harm_of⟩) rfl ⟨rfl, by decide⟩ fun k M hk => ?_
  obtain ⟨o', a', e2⟩ := harm_loop (cap_L hp) (cap_L hq) (by have := cap_length hp; omega) (by have := cap_length hq; omega) (k := k) (M := M) hk ws none (some (cosD p)) (some (cosD q)) none none none none none hwL (fun _ h => nomatch h)
  simp only [b_opening_harm_of, List.replicate, List.map, List.cons_append, List.nil_append, ex_seq, ex_par, es_cons, ev_lis, ev_call, es_nil, ev_var, lk_zero, lk_succ, Option.bind_some, kCs1_ap, kCs2_ap, kCall_ap]
  rw [(pu_capped_of hp).at _ (by omega)]
  simp only [Option.bind_some, kCs1_ap, es_cons, ev_call, es_nil, ev_var, lk_zero, lk_succ, kCs2_ap, kCall_ap]
  rw [(pu_capped_of hq).at _ (by omega)]
  simp only [Option.bind_some, kCs1_ap, es_cons, es_nil, kCs2_ap, kLis_ap, new_f (show [boxD (cap p), boxD (cap q)].length ≤ lim from lim2), ev_con, kPar_ap, sets_cons, sets_nil, List.set, kSq_nx, ex_seq, ex_for, ei_seq, ev_blt, ev_comp2, ev_var, lk_zero, lk_succ, kSeq_ap, it_lst, Option.map_some, kCo2_ap]
  rw [show ([boxD (cap p), boxD (cap q)] : List D) = [cap p, cap q].map boxD from rfl, comp2_map rfl boxD (fun b => b) rowD (fun _ r => fr r.1) [cap p, cap q] [] ?_]
  rotate_left
  · intro b hb
    refine ⟨_, by simp [wipeD]; rfl, by simp; rfl, fun r hr => by simp [rowD, wipeD]⟩
  have eww : ([] ++ [cap p, cap q].flatMap fun b => b.map fun r => fr r.1) = (worths [cap p, cap q]).map fr := by
    unfold worths
    rw [List.nil_append, List.map_flatMap]
    simp [Function.comp_def]
  rw [eww]
  simp only [Option.bind_some, kNew_ap, new_f (show ((worths [cap p, cap q]).map fr).length ≤ lim by rw [List.length_map]; exact lim64 (worths2_len hp hq)), kCs1_ap, es_nil, kCs2_ap, kBlt_ap, s1, kSeq_ap, it_lst, Option.map_some, kFor_ap]
  rw [ef] at e2
  simp only [bestD] at e2
  rw [show ([cap p, cap q].map boxD : List D) = [boxD (cap p), boxD (cap q)] from rfl, e2]
  simp
theorem pu_opening_harm_of {p q : Cos} (hp : Wf p) (hq : Wf q) : ∃ v o, Harm (cap p) (cap q) v o ∧ L 16 v ∧ L 7 o ∧ Pu defs 8 i_opening_harm_of [cosD p, cosD q] (.tup [fr v, fr o]) := by
  obtain ⟨ws, s1, s2⟩ := sort_fr (worths [cap p, cap q]) (worths2_len hp hq)
  have hwL : ∀ w ∈ ws, L 7 w := fun w m => worths2_L hp hq w (s2.mem_iff.mp m)
  obtain ⟨w0, us, ew⟩ : ∃ w0 us, ws = w0 :: us := by
    cases ws with
    | nil => exact absurd (List.Perm.eq_nil s2.symm) (worths2_ne hp)
    | cons a l => exact ⟨a, l, rfl⟩
  subst ew
  obtain ⟨⟨v, o⟩, e1, h1, h2, h3, h4⟩ := harm_fold (a := cap p) (b := cap q) (S := fun w => w ∈ w0 :: us) us (fall (cap p) (cap q) w0, w0) ⟨List.mem_cons_self, rfl⟩ fun w m => List.mem_cons_of_mem _ m
  simp only at h1 h2 h3 h4
  have ho := hwL o h1
  have fo : L 16 (fall (cap p) (cap q) o) := (fall_L (cap_L hp) (cap_L hq) ho (by have := cap_length hp; omega) (by have := cap_length hq; omega)).mono (by decide)
  refine ⟨v, o, ⟨s2.mem_iff.mp h1, h2, fun w m => ?_⟩, by rw [h2]; exact fo, ho, run_harm hp hq s1 hwL (by rw [List.foldl_cons, updH_none]; exact e1)⟩
  rcases List.mem_cons.mp (s2.mem_iff.mpr m) with q | m
  · rw [q]; exact h3
  · exact h4 w m
end X

set_option maxRecDepth 100000
namespace X
open DL PySem
theorem pu_opening_harm {p q : Cos} (hp : Wf p) (hq : Wf q) : ∃ v o, Harm (cap p) (cap q) v o ∧ L 16 v ∧ L 7 o ∧ Pu defs 9 i_opening_harm [cosD p, cosD q] (.tup [fr v, fr o]) ∧ Pu defs 8 i_opening_harm_of [cosD p, cosD q] (.tup [fr v, fr o]) := by
  obtain ⟨v, o, h1, h2, h3, h4⟩ := pu_opening_harm_of hp hq
  refine ⟨v, o, h1, h2, h3, ?_, h4⟩
  refine Pu.mk (df := ⟨2, 2, true, b_opening_harm⟩) rfl ⟨rfl, by decide⟩ fun k M hk => ?_
  simp [b_opening_harm, List.replicate]
  rw [(pu_check_costly hp).at _ (by omega)]
  simp
  rw [(pu_check_costly hq).at _ (by omega)]
  simp
  rw [h4.at _ (by omega)]
  simp
theorem pu_is_opening_harm {p q : Cos} (hp : Wf p) (hq : Wf q) {v o a b : Rat} (h4 : Pu defs 8 i_opening_harm_of [cosD p, cosD q] (.tup [fr v, fr o])) {k : Nat} (hb : L k b) (hk : k ≤ 65) (hk7 : 7 ≤ k) :
    Pu defs 9 i_is_opening_harm [cosD p, cosD q, .tup [fr a, fr b]] (.bl (decide (a = v ∧ v = fall (cap p) (cap q) b))) := by
  refine Pu.mk (df := ⟨3, 3, true, b_is_opening_harm⟩) rfl ⟨rfl, by decide⟩ fun c M hc => ?_
  simp only [b_is_opening_harm, List.replicate, List.map, List.cons_append, List.nil_append, ex_seq, ex_expr, ev_call, es_cons, es_nil, ev_var, lk_zero, lk_succ, Option.bind_some, kCs1_ap, kCs2_ap, kCall_ap]
  rw [(pu_check_costly hp).at _ (by omega)]
  simp only [Option.bind_some, kExp_ap, kSq_nx, ex_seq, ex_expr, ev_call, es_cons, es_nil, ev_var, lk_zero, lk_succ, kCs1_ap, kCs2_ap, kCall_ap]
  rw [(pu_check_costly hq).at _ (by omega)]
  simp only [Option.bind_some, kExp_ap, kSq_nx, ex_seq, ex_ite, et_or, et_not, et_call, ev_call, es_cons, es_nil, ev_var, ev_con, lk_zero, lk_succ, kCs1_ap, kCs2_ap, kCall_ap]
  rw [(pu_is_tuple (by simp)).at _ (by omega)]
  simp
  rw [pu_is_fraction.at _ (by omega)]
  simp
  rw [pu_is_fraction.at _ (by omega)]
  simp
  rw [h4.at _ (by omega)]
  simp
  by_cases e : a = v
  · simp [e]
    rw [(pu_capped_of hp).at _ (by omega)]
    simp
    rw [(pu_capped_of hq).at _ (by omega)]
    simp
    have lp : LB k (cap p) := fun r m => ⟨(cap_L hp r m).1.mono hk7, (cap_L hp r m).2.mono hk7⟩
    have lq : LB k (cap q) := fun r m => ⟨(cap_L hq r m).1.mono hk7, (cap_L hq r m).2.mono hk7⟩
    rw [(pu_fall_at lp lq hb (by omega) (by have := cap_length hp; omega) (by have := cap_length hq; omega)).at _ (by omega)]
    simp
  · simp [e]
theorem pu_check_box {b : List Row} {k : Nat} (h : Bx b) (hb : LB k b) (hk : k ≤ 100) (hl : b.length ≤ 32) : Pu defs 5 i_check_box [boxD b] .non := fun k' M hk' => PuM.mkN (M := M) (df := ⟨1, 1, true, b_check_box⟩) rfl ⟨rfl, by decide⟩ (fun c hc => by
    simp [b_check_box]
    rw [(pu_is_box h hb hk hl).at _ (by omega)]
    simp) k' hk'
theorem pu_drawn_beside {b : List Row} {w : Rat} {k : Nat} (h : Bx b) (hb : LB k b) (hw : L k w) (hk : k ≤ 70) (hl : b.length ≤ 32) : Pu defs 6 i_drawn_beside [boxD b, fr w] (fr (drawn b w)) := by
  refine Pu.mk (df := ⟨2, 2, true, b_drawn_beside⟩) rfl ⟨rfl, by decide⟩ fun c M hc => ?_
  simp [b_drawn_beside, List.replicate]
  rw [(pu_check_box h hb (by omega) hl).at _ (by omega)]
  simp
  rw [pu_is_fraction.at _ (by omega)]
  simp
  rw [(pu_drawn_by hb hw hk (by omega)).at _ (by omega)]
  simp
theorem pu_greatest_draw {bs : List (List Row)} (h : Bs bs) (hx : ∀ b ∈ bs, Bx b) (hne : bs ≠ []) {ws : List Rat} (hw : ws.length ≤ 12) (hg : Pu defs 6 i_greatest_of [.lst (bs.map boxD)] (boxD (gr bs 0 ws))) : Pu defs 7 i_greatest_draw [.lst (bs.map boxD)] (boxD (gr bs 0 ws)) := by
  refine Pu.mk (df := ⟨1, 3, true, b_greatest_draw⟩) rfl ⟨rfl, by decide⟩ fun c M hc => ?_
  have hl := h.len
  have p1 : (1 : Int) ≤ bs.length := by have := List.length_pos_iff.mpr hne; omega
  have p2 : (bs.length : Int) ≤ 4 := by omega
  have isl : Pu defs 1 i_is_list [.lst (bs.map boxD)] (.bl true) := Pu.mk (df := ⟨1, 1, true, b_is_list⟩) rfl ⟨rfl, by decide⟩ fun k M _ => by simp [b_is_list]
  have hll : (bs.map boxD).length ≤ lim := by rw [List.length_map]; exact lim64 (by omega)
  have hlen : semB .len false [.lst (bs.map boxD)] M = some (.int bs.length, M) := by rw [len_lst hll, List.length_map]
  have hgl := gr_len (bs := bs) (ws := ws) (last := 0)
  have hlen2 : semB .len false [boxD (gr bs 0 ws)] M = some (.int (gr bs 0 ws).length, M) := by
    have := len_tup (M := M) (m := false) (ds := (gr bs 0 ws).map rowD) (by rw [List.length_map]; exact lim64 (by omega))
    rwa [List.length_map] at this
  have p3 : ¬ ((32 : Int) < (gr bs 0 ws).length) := by omega
  simp only [b_greatest_draw, List.replicate, List.map, List.cons_append, List.nil_append, ex_seq, ex_ite, et_or, et_not, et_call, ev_call, es_cons, es_nil, ev_var, lk_zero, Option.bind_some, kCs1_ap, kCs2_ap, kCall_ap]
  rw [isl.at _ (by omega)]
  simp only [Option.bind_some, kTr_ap, tr_bl, Option.map_some, kNotT_ap, Bool.not_true, kOrT_f, et_or, et_one, et_not, et_cmp2, ev_con, kC1_ap, ev_blt, es_cons, es_nil, ev_var, lk_zero, kCs1_ap, kCs2_ap, kBlt_ap, hlen, kC2_ap, sc_le, decide_eq_true p1, decide_eq_true p2, kC22_t, ev_glo, kC23_ap, et_blt, ev_comp, ei_seq, kSeq_ap, it_lst, kCo_ap]
  rw [comp_yes boxD (fun _ => .bl true) bs rfl ?_]
  rotate_left
  · intro b hb
    simp [wipeD]
    rw [(pu_is_box (hx b hb) (h.each b hb).1 (by decide) (by have := (h.each b hb).2; omega)).at _ (by omega)]
  simp only [Option.bind_some, kNew_ap, new_f (show (bs.map fun _ => D.bl true).length ≤ lim by rw [List.length_map]; exact lim64 (by omega)), kCs1_ap, es_nil, kCs2_ap, kBlt_ap]
  rw [all_true (fun d hd => by obtain ⟨_, _, rfl⟩ := List.mem_map.mp hd; rfl)]
  simp only [Option.bind_some, kTr_ap, tr_bl, Option.map_some, kNotT_ap, Bool.not_true, kIf_f, DL.ex_nil, kSq_nx, ex_seq, ex_set, ev_call, es_cons, es_nil, ev_var, lk_zero, kCs1_ap, kCs2_ap, kCall_ap]
  rw [hg.at _ (by omega)]
  simp only [Option.bind_some, kSet_ap, asg_nm, List.set, Option.map_some, kSq_nx, ex_seq, ex_ite, et_cmp, ev_blt, es_cons, es_nil, ev_var, lk_zero, lk_succ, kCs1_ap, kCs2_ap, kBlt_ap, hlen2, kCmp1_ap, ev_glo, kCmp2_ap, sc_gt, decide_eq_false p3, kIf_f, DL.ex_nil, ex_ret, kRet_ap, kSq_rt]
  exact ⟨_, rfl⟩
end X

set_option maxRecDepth 100000
namespace X
open DL PySem
/-! ### the law's own fractions -/
theorem pu_lplus {x y : Rat} (hx : Ok x) (hy : Ok y) : Pu defs 2 i__law_plus [fr x, fr y] (fr (x + y)) := by
  refine Pu.mk (df := ⟨2, 2, true, b__law_plus⟩) rfl ⟨rfl, by decide⟩ fun k M hk => ?_
  rw [Rat.add_def']
  simp [b__law_plus, List.replicate, fr, hx.nd hy, hy.nd hx, hx.dd hy]
  rw [(pu_law_low (d := x.den * y.den) (by simp) (den_pos2 x y) (hx.ddl hy)).at _ hk]
  simp
  rfl
theorem pu_lminus {x y : Rat} (hx : Ok x) (hy : Ok y) : Pu defs 2 i__law_minus [fr x, fr y] (fr (x - y)) := by
  refine Pu.mk (df := ⟨2, 2, true, b__law_minus⟩) rfl ⟨rfl, by decide⟩ fun k M hk => ?_
  rw [Rat.sub_def']
  simp [b__law_minus, List.replicate, fr, hx.nd hy, hy.nd hx, hx.dd hy]
  rw [(pu_law_low (d := x.den * y.den) (by simp) (den_pos2 x y) (hx.ddl hy)).at _ hk]
  simp
  rfl
theorem pu_ltimes {x y : Rat} (hx : Ok x) (hy : Ok y) : Pu defs 2 i__law_times [fr x, fr y] (fr (x * y)) := by
  refine Pu.mk (df := ⟨2, 2, true, b__law_times⟩) rfl ⟨rfl, by decide⟩ fun k M hk => ?_
  rw [Rat.mul_def']
  simp [b__law_times, List.replicate, fr, hx.nn hy, hx.dd hy]
  rw [(pu_law_low (d := x.den * y.den) (by simp) (den_pos2 x y) (hx.ddl hy)).at _ hk]
  simp
  rfl
theorem pu_lover {x y : Rat} (hx : Ok x) (hy : Dv y) : Pu defs 2 i__law_over [fr x, fr y] (fr (x / y)) := by
  refine Pu.mk (df := ⟨2, 2, true, b__law_over⟩) rfl ⟨rfl, by decide⟩ fun k M hk => ?_
  have hp := num_pos hy.pos
  rw [div_mk hy.pos]
  simp [b__law_over, List.replicate, fr, hx.nd hy.ok, hx.dn hy.ok]
  rw [(pu_law_low (d := x.den * y.num.natAbs) (by rw [Int.natCast_mul, Int.natAbs_of_nonneg (by omega)]) (Nat.mul_pos x.den_pos (by omega)) (by
    have := log2_mul x.den y.num.natAbs
    have := hx.d
    have := hy.num
    omega)).at _ hk]
  simp
  rfl
theorem pu_lless {x y : Rat} (hx : Ok x) (hy : Ok y) : Pu defs 1 i__law_less [fr x, fr y] (.bl (decide (x < y))) := by
  refine Pu.mk (df := ⟨2, 2, true, b__law_less⟩) rfl ⟨rfl, by decide⟩ fun k M hk => ?_
  simp [b__law_less, List.replicate, fr, hx.nd hy, hy.nd hx, Rat.lt_iff]
theorem pu_lgreater {x y : Rat} (hx : Ok x) (hy : Ok y) : Pu defs 2 i__law_greater [fr x, fr y] (fr (gt x y)) := by
  refine Pu.mk (df := ⟨2, 2, true, b__law_greater⟩) rfl ⟨rfl, by decide⟩ fun k M hk => ?_
  simp only [b__law_greater, List.replicate, ex_seq, ex_ret, ev_ite, et_call, ev_call, es_cons, ev_var, lk_zero, lk_succ, List.map, List.cons_append, List.nil_append, Option.bind_some, kCs1_ap, es_nil, kCs2_ap, kCall_ap]
  rw [(pu_lless hx hy).at _ hk]
  by_cases h : x < y <;> simp [h, gt]
section
variable {k : Nat}
theorem pu_ltotal {xs : List Rat} (h : ∀ x ∈ xs, L k x) (hk : k ≤ 150) (hl : xs.length ≤ 64) : Pu defs 3 i__law_total [.lst (xs.map fr)] (fr xs.sum) := by
  refine Pu.mk (df := ⟨1, 3, true, b__law_total⟩) rfl ⟨rfl, by decide⟩ fun c M hc => ?_
  have loop : ∀ (ys : List Rat) (z : Rat) (l : Option D) (o : Option D) (n : Nat), In k (n * 2 ^ (200 * k)) z → (∀ x ∈ ys, L k x) → n + ys.length = xs.length →
      ∃ o', forGo (exS (callN defs c) (.seq (.set (.nm 1) (.call i__law_plus (.cons (.var 1) (.cons (.var 2) .nil)))) .nil)) (.nm 2) [] (ys.map fr) [l, some (fr z), o] M = some (.nx, [l, some (fr (z + ys.sum)), o'], M) := by
    intro ys
    induction ys with
    | nil => intro z l o n _ _ _; exact ⟨o, by simp [Rat.add_zero]⟩
    | cons y ys ih =>
      intro z l o n hz hy hn
      have oz : Ok z := hz.ok (by omega) (Nat.le_trans (log2_mono (p2_step n (by simp at hn; omega))) (p2_log (by omega)))
      have y1 := hy y List.mem_cons_self
      obtain ⟨o', e⟩ := ih (z + y) l (some (fr y)) (n + 1) (by rw [Nat.add_mul, Nat.one_mul]; exact hz.add y1.out) (fun x m => hy x (List.mem_cons_of_mem _ m)) (by simp at hn ⊢; omega)
      refine ⟨o', ?_⟩
      rw [List.map_cons, for_cons]
      simp
      rw [(pu_lplus oz (y1.ok (by omega))).at _ hc]
      simp
      rw [e, Rat.add_assoc]
  obtain ⟨o', e⟩ := loop xs 0 (some (.lst (xs.map fr))) none 0 (In.zero) h (by simp)
  have z0 : fr 0 = .tup [.int 0, .int 1] := rfl
  rw [z0] at e
  simp [b__law_total, List.replicate]
  rw [e]
  simp [Rat.zero_add]
theorem pu_ldrawn {b : List Row} {w : Rat} (hb : LB k b) (hw : L k w) (hk : k ≤ 70) (hl : b.length ≤ 64) : Pu defs 4 i__law_drawn [boxD b, fr w] (fr (drawn b w)) := by
  refine Pu.mk (df := ⟨2, 4, true, b__law_drawn⟩) rfl ⟨rfl, by decide⟩ fun c M hc => ?_
  simp [b__law_drawn, List.replicate, boxD]
  rw [comp_yes rowD (fun r => fr (r.2 * gt w r.1)) b rfl ?_]
  rotate_left
  · intro r hr
    simp [rowD, wipeD]
    rw [(pu_lgreater (hw.ok (by omega)) ((hb r hr).1.ok (by omega))).at _ (by omega)]
    simp
    rw [(pu_ltimes ((hb r hr).2.ok (by omega)) ((hw.gt (hb r hr).1).ok (by omega))).at _ (by omega)]
  have hs : ∀ x ∈ b.map (fun r => r.2 * gt w r.1), L (k + k) x := by
    intro x hx
    obtain ⟨r, hr, rfl⟩ := List.mem_map.mp hx
    exact (hb r hr).2.mul (hw.gt (hb r hr).1)
  have := (pu_ltotal hs (by omega) (by simpa using hl)).at M (k := c) (by omega)
  rw [List.map_map] at this
  simp [lim64 hl]
  rw [show (b.map fun r => fr (r.2 * gt w r.1)) = b.map (fr ∘ fun r => r.2 * gt w r.1) from rfl, this]
  simp [drawn]
theorem lbeyond_eq {b : List Row} {w : Rat} (h : Bx b) : ((b.filter fun r => decide (w < r.1)).map fun r => r.2 * (r.1 - w)).sum = beyond b w := by
  have e := ex_filter (b := b) (f := fun x => x - w) (fun x => decide (w < x))
  unfold ex at e
  rw [e, beyond_ex h]
  unfold ex
  congr 1
  apply List.map_congr_left
  intro r _
  unfold gt
  by_cases hw : w < r.1
  · simp [hw]
  · simp [hw]; grind
theorem pu_lbeyond {b : List Row} {w : Rat} (h : Bx b) (hb : LB k b) (hw : L k w) (hk : k ≤ 70) (hl : b.length ≤ 64) : Pu defs 4 i__law_beyond [boxD b, fr w] (fr (beyond b w)) := by
  refine Pu.mk (df := ⟨2, 4, true, b__law_beyond⟩) rfl ⟨rfl, by decide⟩ fun c M hc => ?_
  simp [b__law_beyond, List.replicate, boxD]
  rw [comp_if rowD (fun r => fr (r.2 * (r.1 - w))) (fun r => decide (w < r.1)) b rfl ?_ ?_]
  rotate_left
  · intro r hr
    simp [rowD, wipeD]
    rw [(pu_lless (hw.ok (by omega)) ((hb r hr).1.ok (by omega))).at _ (by omega)]
    simp
  · intro r hr _
    simp [rowD, wipeD]
    rw [(pu_lminus ((hb r hr).1.ok (by omega)) (hw.ok (by omega))).at _ (by omega)]
    simp
    rw [(pu_ltimes ((hb r hr).2.ok (by omega)) (((hb r hr).1.sub hw).ok (by omega))).at _ (by omega)]
  have hl2 : (b.filter fun r => decide (w < r.1)).length ≤ 64 := Nat.le_trans (List.length_filter_le _ _) hl
  have hs : ∀ x ∈ (b.filter fun r => decide (w < r.1)).map (fun r => r.2 * (r.1 - w)), L (k + (k + 1)) x := by
    intro x hx
    obtain ⟨r, hr, rfl⟩ := List.mem_map.mp hx
    have hr' := (List.mem_filter.mp hr).1
    exact (hb r hr').2.mul ((hb r hr').1.sub hw)
  have := (pu_ltotal hs (by omega) (by simpa using hl2)).at M (k := c) (by omega)
  rw [List.map_map] at this
  simp [lim64 hl2]
  rw [show ((b.filter fun r => decide (w < r.1)).map fun r => fr (r.2 * (r.1 - w))) = (b.filter fun r => decide (w < r.1)).map (fr ∘ fun r => r.2 * (r.1 - w)) from rfl, this, lbeyond_eq h]
  simp
end
/-! ### in order -/
def io (zs : List Rat) (y : Rat) : List Rat := if y ∈ zs then zs else zs.take (zs.filter fun o => decide (o < y)).length ++ [y] ++ zs.drop (zs.filter fun o => decide (o < y)).length
def inOrder (xs : List Rat) : List Rat := xs.foldl io []
theorem split_strict {y : Rat} : ∀ {zs : List Rat}, zs.Pairwise (· < ·) → zs.take (zs.filter fun o => decide (o < y)).length = zs.filter (fun o => decide (o < y)) ∧ zs.drop (zs.filter fun o => decide (o < y)).length = zs.filter (fun o => !decide (o < y))
  | [], _ => by simp
  | z :: zs, h => by
    rw [List.pairwise_cons] at h
    by_cases hz : z < y
    · obtain ⟨i1, i2⟩ := split_strict h.2 (y := y)
      rw [List.filter_cons_of_pos (by simp [hz]), List.filter_cons_of_neg (by simp [hz])]
      simp only [List.length_cons, List.take_succ_cons, List.drop_succ_cons, i1, i2]
      exact ⟨trivial, trivial⟩
    · have all : ∀ o ∈ z :: zs, ¬ o < y := fun o m => by
        rcases List.mem_cons.mp m with e | m
        · rw [e]; exact hz
        · have := h.1 o m; grind
      have e1 : (z :: zs).filter (fun o => decide (o < y)) = [] := List.filter_eq_nil_iff.mpr fun o m => by simp [all o m]
      have e2 : (z :: zs).filter (fun o => !decide (o < y)) = z :: zs := List.filter_eq_self.mpr fun o m => by simp [all o m]
      rw [e1, e2]; simp
theorem io_props {y : Rat} {zs : List Rat} (h : zs.Pairwise (· < ·)) : (io zs y).Pairwise (· < ·) ∧ (∀ x, x ∈ io zs y ↔ x ∈ zs ∨ x = y) ∧ (io zs y).length ≤ zs.length + 1 := by
  unfold io
  by_cases hm : y ∈ zs
  · rw [if_pos hm]
    exact ⟨h, fun x => ⟨.inl, fun q => q.elim id fun e => by rw [e]; exact hm⟩, by omega⟩
  · rw [if_neg hm]
    obtain ⟨h1, h2⟩ := split_strict h (y := y)
    refine ⟨?_, fun x => ?_, ?_⟩
    · rw [h1, h2, List.append_assoc, List.pairwise_append]
      refine ⟨h.filter _, ?_, ?_⟩
      · rw [List.singleton_append, List.pairwise_cons]
        refine ⟨fun o m => ?_, h.filter _⟩
        have m' := List.mem_filter.mp m
        have : ¬ o < y := by simpa using m'.2
        exact Rat.lt_of_le_of_ne (Rat.not_lt.mp this) fun e => hm (by rw [e]; exact m'.1)
      · intro a ha b hb
        have h3 : a < y := by simpa using (List.mem_filter.mp ha).2
        rcases List.mem_append.mp hb with m | m
        · simp at m; rw [m]; exact h3
        · have : ¬ b < y := by simpa using (List.mem_filter.mp m).2
          grind
    · constructor
      · intro m
        rcases List.mem_append.mp m with m | m
        · rcases List.mem_append.mp m with m | m
          · exact .inl (List.mem_of_mem_take m)
          · right; simpa using m
        · exact .inl (List.mem_of_mem_drop m)
      · rintro (m | rfl)
        · rw [← List.take_append_drop (zs.filter fun o => decide (o < y)).length zs] at m
          rcases List.mem_append.mp m with m | m
          · exact List.mem_append_left _ (List.mem_append_left _ m)
          · exact List.mem_append_right _ m
        · exact List.mem_append_left _ (List.mem_append_right _ (by simp))
    · simp
      omega
theorem inOrder_props (xs : List Rat) : (inOrder xs).Pairwise (· < ·) ∧ (∀ x, x ∈ inOrder xs ↔ x ∈ xs) ∧ (inOrder xs).length ≤ xs.length := by
  unfold inOrder
  have : ∀ (ys zs : List Rat), zs.Pairwise (· < ·) → (ys.foldl io zs).Pairwise (· < ·) ∧ (∀ x, x ∈ ys.foldl io zs ↔ x ∈ zs ∨ x ∈ ys) ∧ (ys.foldl io zs).length ≤ zs.length + ys.length := by
    intro ys
    induction ys with
    | nil => intro zs h; exact ⟨h, fun x => by simp, by simp⟩
    | cons y ys ih =>
      intro zs h
      obtain ⟨p1, p2, p3⟩ := io_props h (y := y)
      obtain ⟨h1, h2, h3⟩ := ih (io zs y) p1
      refine ⟨h1, fun x => ?_, ?_⟩
      · rw [List.foldl_cons, h2, p2, List.mem_cons, or_assoc]
      · rw [List.foldl_cons, List.length_cons]; omega
  have := this xs [] List.Pairwise.nil
  simpa using this
theorem cut_lo {ds : List D} {n : Nat} (h : n ≤ ds.length) : cutD ds none (some (n : Int)) = ds.take n := by
  unfold cutD
  rw [HT.sIx_none, show HT.sIx ds.length ds.length (some (n : Int)) = min n ds.length from HT.sIx_nat _ _ _, Nat.min_eq_left h]
  simp
theorem cut_hi {ds : List D} {n : Nat} (h : n ≤ ds.length) : cutD ds (some (n : Int)) none = ds.drop n := by
  unfold cutD
  rw [show HT.sIx ds.length 0 (some (n : Int)) = min n ds.length from HT.sIx_nat _ _ _, Nat.min_eq_left h, HT.sIx_none]
  rw [List.take_of_length_le (by simp)]
theorem pu_lin_order {xs : List Rat} {k : Nat} (h : ∀ x ∈ xs, L k x) (hk : k ≤ 100) (hl : xs.length ≤ 60) : Pu defs 3 i__law_in_order [.lst (xs.map fr)] (.lst ((inOrder xs).map fr)) := by
  refine Pu.mk (df := ⟨1, 5, true, b__law_in_order⟩) rfl ⟨rfl, by decide⟩ fun c M hc => ?_
  have loop : ∀ (ys zs : List Rat) (l o a b : Option D), (∀ x ∈ ys, L k x) → (∀ x ∈ zs, L k x) → zs.Pairwise (· < ·) → zs.length + ys.length ≤ 60 →
      ∃ o' a', forGo (exS (callN defs c) (.seq (.ite (.cmp .notin (.var 2) (.var 1)) (.seq (.set (.nm 3) (.blt .len false (.cons (.comp false (.nm 4) [4] (.iseq (.var 1)) (.call i__law_less (.cons (.var 4) (.cons (.var 2) .nil))) (.var 4)) .nil))) (.seq (.set (.nm 1) (.op .add false (.op .add false (.sli false (.var 1) .nil (.cons (.var 3) .nil)) (.lis false (.cons (.var 2) .nil))) (.sli false (.var 1) (.cons (.var 3) .nil) .nil))) .nil)) .nil) .nil)) (.nm 2) [] (ys.map fr) [l, some (.lst (zs.map fr)), o, a, b] M
        = some (.nx, [l, some (.lst ((ys.foldl io zs).map fr)), o', a', b], M) := by
    intro ys
    induction ys with
    | nil => intro zs l o a b _ _ _ _; exact ⟨o, a, by simp⟩
    | cons y ys ih =>
      intro zs l o a b hy hz hp hlen
      simp at hlen
      obtain ⟨p1, p2, p3⟩ := io_props hp (y := y)
      have hin : ∀ x ∈ io zs y, L k x := fun x m => by
        rcases (p2 x).mp m with m | e
        · exact hz x m
        · rw [e]; exact hy y List.mem_cons_self
      have nin : semC M .notin (fr y) (.lst (zs.map fr)) = some (!decide (y ∈ zs)) := by simp [semC, inD_fr]
      by_cases hm : y ∈ zs
      · obtain ⟨o', a', e⟩ := ih zs l (some (fr y)) a b (fun x m => hy x (List.mem_cons_of_mem _ m)) hz hp (by omega)
        refine ⟨o', a', ?_⟩
        have e0 : io zs y = zs := by unfold io; rw [if_pos hm]
        rw [List.map_cons, for_cons, List.foldl_cons, e0, ← e]
        simp [nin, hm]
      · obtain ⟨o', a', e⟩ := ih (io zs y) l (some (fr y)) (some (.int ((zs.filter fun o => decide (o < y)).length : Nat))) b (fun x m => hy x (List.mem_cons_of_mem _ m)) hin p1 (by omega)
        refine ⟨o', a', ?_⟩
        have hcl : (zs.filter fun o => decide (o < y)).length ≤ zs.length := List.length_filter_le _ _
        rw [List.map_cons, for_cons, List.foldl_cons, ← e]
        simp only [asg_nm, Option.bind_some, kTurn_ap, ex_seq, ex_ite, et_cmp, ev_var, lk_zero, lk_succ, kCmp1_ap, kCmp2_ap, nin, decide_eq_false hm, Bool.not_false, Option.map_some, kIf_t, List.set, ex_set, ev_blt, es_cons, es_nil, ev_comp, ei_seq, kSeq_ap, it_lst, kCo_ap]
        rw [comp_if fr fr (fun o => decide (o < y)) zs rfl ?_ ?_]
        rotate_left
        · intro r hr
          simp [wipeD]
          rw [(pu_lless ((hz r hr).ok (by omega)) ((hy y List.mem_cons_self).ok (by omega))).at _ (by omega)]
          simp
        · intro r hr _
          simp [wipeD]
        have hf : ((zs.filter fun o => decide (o < y)).map fr).length ≤ lim := by rw [List.length_map]; exact lim64 (by omega)
        have hzl : (zs.map fr).length = zs.length := List.length_map _
        simp only [Option.bind_some, kNew_ap, new_f hf, kCs1_ap, es_nil, kCs2_ap, kBlt_ap, len_lst hf, kSet_ap, asg_nm, List.set, Option.map_some, kSq_nx, ex_seq, ex_set, ev_op, ev_sli, ev_var, lk_zero, lk_succ, kSl1_ap, kSl2_ap, es_cons, kSl3_ap, List.length_map]
        have s1 : semSl false M (.lst (zs.map fr)) [] [.int ((zs.filter fun o => decide (o < y)).length : Nat)] = some (.lst ((zs.map fr).take (zs.filter fun o => decide (o < y)).length), M) := by
          simp only [semSl, optI, Option.bind_eq_bind, Option.bind_some, lo_lst]
          rw [cut_lo (by rw [hzl]; exact hcl)]
          exact new_f (lim64 (by rw [List.length_take]; omega))
        have s2 : semSl false M (.lst (zs.map fr)) [.int ((zs.filter fun o => decide (o < y)).length : Nat)] [] = some (.lst ((zs.map fr).drop (zs.filter fun o => decide (o < y)).length), M) := by
          simp only [semSl, optI, Option.bind_eq_bind, Option.bind_some, lo_lst]
          rw [cut_hi (by rw [hzl]; exact hcl)]
          exact new_f (lim64 (by rw [List.length_drop]; omega))
        rw [s1]
        have a1 : ∀ (u v : List D), u.length + v.length ≤ 64 → semO false M .add (.lst u) (.lst v) = some (.lst (u ++ v), M) := fun u v huv => by
          simp only [semO, lo_lst, Option.bind_eq_bind, Option.bind_some]
          exact new_f (lim64 (by rw [List.length_append]; exact huv))
        simp only [Option.bind_some, kOp1_ap, ev_lis, es_cons, es_nil, ev_var, lk_zero, lk_succ, kCs1_ap, kCs2_ap, kLis_ap, new_f (show [fr y].length ≤ lim from lim1), kOp2_ap, ev_sli, kSl1_ap, kSl2_ap, kSl3_ap]
        rw [a1 _ _ (by rw [List.length_take]; simp; omega)]
        simp only [Option.bind_some, kOp1_ap, ev_sli, es_cons, es_nil, ev_var, lk_zero, lk_succ, kCs1_ap, kCs2_ap, kSl1_ap, kSl2_ap, kSl3_ap]
        rw [s2]
        simp only [Option.bind_some, kOp2_ap]
        rw [a1 _ _ (by rw [List.length_append, List.length_take, List.length_drop]; simp; omega)]
        have em : (zs.map fr).take (zs.filter fun o => decide (o < y)).length ++ [fr y] ++ (zs.map fr).drop (zs.filter fun o => decide (o < y)).length = (io zs y).map fr := by
          unfold io; rw [if_neg hm]; simp [List.map_take, List.map_drop]
        rw [em]
        simp
  obtain ⟨o', a', e⟩ := loop xs [] (some (.lst (xs.map fr))) none none none h (fun x m => nomatch m) List.Pairwise.nil (by simpa using hl)
  simp only [b__law_in_order, List.replicate, List.map, List.cons_append, List.nil_append, ex_seq, ex_set, ev_lis, es_nil, Option.bind_some, kLis_ap, new_f (show ([] : List D).length ≤ lim from Nat.zero_le _), kSet_ap, asg_nm, List.set, Option.map_some, kSq_nx, ex_for, ei_seq, ev_var, lk_zero, kSeq_ap, it_lst, kFor_ap]
  simp only [List.map] at e
  rw [e]
  simp [inOrder]
end X

set_option maxRecDepth 100000
namespace X
open DL PySem
theorem rangeC_down (n : Nat) : rangeC ((n : Int) - 1) (-1) n = (List.range n).reverse.map fun i => D.int (i : Nat) := by
  apply List.ext_getElem
  · simp [rangeC]
  · intro i h1 h2
    simp [rangeC] at h1 ⊢
    omega
theorem lastR_eq {l : List Rat} {x : Rat} (hp : l.Pairwise (· < ·)) (hx : x ∈ l) (hm : ∀ y ∈ l, y ≤ x) : lastR l = x := by
  have h1 : x ≤ lastR l := last_max (d := 0) hp x hx
  have h2 := hm _ (getLast_mem (List.ne_nil_of_mem hx))
  exact Rat.le_antisymm h2 h1
theorem pu_lreserve {c : Cos} (h : Wf c) : Pu defs 5 i__law_reserve [cosD c] (fr (reserve c.1 c.2)) := by
  refine Pu.mk (df := ⟨1, 9, true, b__law_reserve⟩) rfl ⟨rfl, by decide⟩ fun f M hf => ?_
  have hl : c.2.length ≤ 64 := by have := h.len; omega
  have hlm : ((c.2.map (·.1)).map fr).length ≤ lim := by rw [List.length_map, List.length_map]; exact lim64 hl
  have hpos : 1 ≤ c.2.length := List.length_pos_iff.mpr h.bx.ne
  have ixm : ∀ (i : Nat) (hi : i < c.2.length), L2.atI ((c.2.map (·.1)).map fr) (i : Int) = some (fr c.2[i].1) := fun i hi => at_nat (by simp [hi])
  have loop : ∀ (m : Nat) (hm : m ≤ c.2.length) (x0 a b s u v : Option D), (∀ j (hj : j < c.2.length), m ≤ j → beyond c.2 c.2[j].1 < c.1) →
      (belows c.1 c.2 = [] ∧ ∃ a' b', forGo (exS (callN defs f) (.seq (.set (.nm 5) (.call i__law_beyond (.cons (.var 2) (.cons (.idx (.var 3) (.var 4)) .nil)))) (.seq (.ite (.not (.call i__law_less (.cons (.var 5) (.cons (.var 1) .nil)))) (.seq (.set (.nm 6) (.call i__law_total (.cons (.comp false (.cons (.nm 7) (.cons (.nm 8) .nil)) [7, 8] (.iseq (.var 2)) (.call i__law_less (.cons (.idx (.var 3) (.var 4)) (.cons (.var 7) .nil))) (.var 8)) .nil))) (.seq (.ret (.call i__law_plus (.cons (.idx (.var 3) (.var 4)) (.cons (.call i__law_over (.cons (.call i__law_minus (.cons (.var 5) (.cons (.var 1) .nil))) (.cons (.var 6) .nil))) .nil)))) .nil)) .nil) .nil))) (.nm 4) [] ((List.range m).reverse.map fun i => D.int (i : Nat)) [x0, some (fr c.1), some (boxD c.2), some (.lst ((c.2.map (·.1)).map fr)), a, b, s, u, v] M = some (.nx, [x0, some (fr c.1), some (boxD c.2), some (.lst ((c.2.map (·.1)).map fr)), a', b', s, u, v], M)) ∨
      (belows c.1 c.2 ≠ [] ∧ ∃ env', forGo (exS (callN defs f) (.seq (.set (.nm 5) (.call i__law_beyond (.cons (.var 2) (.cons (.idx (.var 3) (.var 4)) .nil)))) (.seq (.ite (.not (.call i__law_less (.cons (.var 5) (.cons (.var 1) .nil)))) (.seq (.set (.nm 6) (.call i__law_total (.cons (.comp false (.cons (.nm 7) (.cons (.nm 8) .nil)) [7, 8] (.iseq (.var 2)) (.call i__law_less (.cons (.idx (.var 3) (.var 4)) (.cons (.var 7) .nil))) (.var 8)) .nil))) (.seq (.ret (.call i__law_plus (.cons (.idx (.var 3) (.var 4)) (.cons (.call i__law_over (.cons (.call i__law_minus (.cons (.var 5) (.cons (.var 1) .nil))) (.cons (.var 6) .nil))) .nil)))) .nil)) .nil) .nil))) (.nm 4) [] ((List.range m).reverse.map fun i => D.int (i : Nat)) [x0, some (fr c.1), some (boxD c.2), some (.lst ((c.2.map (·.1)).map fr)), a, b, s, u, v] M = some (.rt (fr (reserve c.1 c.2)), env', M)) := by
    intro m
    induction m with
    | zero =>
      intro hm x0 a b s u v hj
      refine .inl ⟨?_, a, b, by simp⟩
      refine List.eq_nil_iff_forall_not_mem.mpr fun x hx => ?_
      obtain ⟨⟨r, hr, rfl⟩, h2⟩ := belows_mem.mp hx
      obtain ⟨j, hj', rfl⟩ := List.getElem_of_mem hr
      have := hj j hj' (Nat.zero_le _)
      grind
    | succ m ih =>
      intro hm x0 a b s u v hj
      have hml : m < c.2.length := by omega
      have hw := (h.lb _ (List.getElem_mem hml)).1
      have hB := beyond_L h.lb hw hl
      have er : (List.range (m + 1)).reverse.map (fun i => D.int (i : Nat)) = D.int (m : Nat) :: (List.range m).reverse.map fun i => D.int (i : Nat) := by
        rw [List.range_succ]; simp
      rw [er, for_cons]
      simp only [asg_nm, Option.bind_some, kTurn_ap, ex_seq, ex_set, ev_call, es_cons, es_nil, ev_idx, ev_var, lk_zero, lk_succ, kIx1_ap, kIx2_ap, ix_lst, ixm m hml, Option.map_some, kCs1_ap, kCs2_ap, kCall_ap, List.set]
      rw [(pu_lbeyond h.bx h.lb hw (by decide) hl).at _ (by omega)]
      simp only [Option.bind_some, kSet_ap, asg_nm, List.set, Option.map_some, kSq_nx, ex_seq, ex_ite, et_not, et_call, ev_call, es_cons, es_nil, ev_var, lk_zero, lk_succ, kCs1_ap, kCs2_ap, kCall_ap]
      rw [(pu_lless (hB.ok (by decide)) (h.lc.ok (by decide))).at _ (by omega)]
      by_cases hlt : beyond c.2 c.2[m].1 < c.1
      · have ih' := ih (by omega) x0 (some (.int (m : Nat))) (some (fr (beyond c.2 c.2[m].1))) s u v fun j hj' hjm => by
          by_cases e : j = m
          · subst e; exact hlt
          · exact hj j hj' (by omega)
        simp only [Option.bind_some, kTr_ap, tr_bl, Option.map_some, decide_eq_true hlt, kNotT_ap, Bool.not_true, kIf_f, DL.ex_nil, kSq_nx, kLoop_nx]
        exact ih'
      · right
        have hge : c.1 ≤ beyond c.2 c.2[m].1 := Rat.not_lt.mp hlt
        have hmem : c.2[m].1 ∈ belows c.1 c.2 := belows_mem.mpr ⟨⟨_, List.getElem_mem hml, rfl⟩, hge⟩
        have hne : belows c.1 c.2 ≠ [] := List.ne_nil_of_mem hmem
        have hlast : lastR (belows c.1 c.2) = c.2[m].1 := by
          refine lastR_eq (belows_sorted h.bx) hmem fun y hy => ?_
          obtain ⟨⟨r, hr, rfl⟩, h2⟩ := belows_mem.mp hy
          obtain ⟨j, hj', rfl⟩ := List.getElem_of_mem hr
          by_cases e : j ≤ m
          · rcases Nat.lt_or_eq_of_le e with q | q
            · exact Rat.le_of_lt (List.pairwise_iff_getElem.mp h.bx.inc j m hj' hml q)
            · subst q; exact Rat.le_refl
          · have := hj j hj' (by omega)
            grind
        obtain ⟨r, hr, hwr⟩ := beyond_pos h.bx (show 0 < beyond c.2 c.2[m].1 by have := h.pos; grind)
        have hsh := over_sh h hr hwr
        have er : reserve c.1 c.2 = c.2[m].1 + (beyond c.2 c.2[m].1 - c.1) / over c.2 c.2[m].1 := by
          unfold reserve; rw [if_neg hne, hlast]
        refine ⟨hne, ?_⟩
        simp only [Option.bind_some, kTr_ap, tr_bl, Option.map_some, decide_eq_false hlt, kNotT_ap, Bool.not_false, kIf_t, ex_seq, ex_set, ev_call, es_cons, es_nil, ev_comp, ei_seq, ev_var, lk_zero, lk_succ, kSeq_ap]
        rw [show itOf M (boxD c.2) = some ⟨[], c.2.map rowD⟩ from rfl]
        simp only [Option.map_some, Option.bind_some, kCo_ap]
        rw [comp_if rowD (fun r => fr r.2) (fun r => decide (c.2[m].1 < r.1)) c.2 rfl ?_ ?_]
        rotate_left
        · intro r hr
          simp only [rowD, wipeD, List.set, asg_cons, asg_nm, asg_nil, Option.bind_some, et_call, ev_call, es_cons, es_nil, ev_idx, ev_var, lk_zero, lk_succ, kIx1_ap, kIx2_ap, ix_lst, ixm m hml, Option.map_some, kCs1_ap, kCs2_ap, kCall_ap]
          rw [(pu_lless (hw.ok (by decide)) ((h.lb r hr).1.ok (by decide))).at _ (by omega)]
          simp
        · intro r hr _
          simp [rowD, wipeD]
        have hl2 : (c.2.filter fun r => decide (c.2[m].1 < r.1)).length ≤ 64 := Nat.le_trans (List.length_filter_le _ _) hl
        have htot := (pu_ltotal (h.lb.sub fun r => decide (c.2[m].1 < r.1)).snd (by decide) (by rw [List.length_map]; exact hl2)).at M (k := f) (by omega)
        rw [List.map_map] at htot
        have eo : ((c.2.filter fun r => decide (c.2[m].1 < r.1)).map (·.2)).sum = over c.2 c.2[m].1 := by
          rw [mass_eq, ex_filter (fun x => decide (c.2[m].1 < x))]
          unfold over
          refine ex_congr fun r _ => ?_
          by_cases hw : c.2[m].1 < r.1 <;> simp [hw]
        rw [eo] at htot
        simp only [Option.bind_some, kNew_ap, new_f (show ((c.2.filter fun r => decide (c.2[m].1 < r.1)).map fun r => fr r.2).length ≤ lim by rw [List.length_map]; exact lim64 hl2), kCs1_ap, es_nil, kCs2_ap, kCall_ap]
        rw [show ((c.2.filter fun r => decide (c.2[m].1 < r.1)).map fun r => fr r.2) = (c.2.filter fun r => decide (c.2[m].1 < r.1)).map (fr ∘ fun r => r.2) from rfl, htot]
        simp only [Option.bind_some, kSet_ap, asg_nm, List.set, Option.map_some, kSq_nx, ex_seq, ex_ret, ev_call, es_cons, es_nil, ev_idx, ev_var, lk_zero, lk_succ, kIx1_ap, kIx2_ap, ix_lst, ixm m hml, kCs1_ap, kCs2_ap, kCall_ap]
        have hsub : L 5 (beyond c.2 c.2[m].1 - c.1) := (hB.sub (h.lc.mono (by decide))).mono (by decide)
        rw [(pu_lminus (hB.ok (by decide)) (h.lc.ok (by decide))).at _ (by omega)]
        simp only [Option.bind_some, kCs1_ap, es_cons, es_nil, ev_var, lk_zero, lk_succ, kCs2_ap, kCall_ap]
        rw [(pu_lover (hsub.ok (by decide)) (dv_of hsh (lb_over h) (by decide))).at _ (by omega)]
        simp only [Option.bind_some, kCs1_ap, es_nil, kCs2_ap, kCall_ap]
        rw [(pu_lplus (hw.ok (by decide)) ((hsub.div hsh).ok (by decide))).at _ (by omega), ← er]
        simp
  have e1 : Pu defs 5 i__law_reserve [cosD c] (fr (reserve c.1 c.2)) → True := fun _ => trivial
  have hlen : semB .len false [.lst ((c.2.map (·.1)).map fr)] M = some (.int c.2.length, M) := by rw [len_lst hlm, List.length_map, List.length_map]
  simp only [b__law_reserve, List.replicate, List.map, List.cons_append, List.nil_append, ex_seq, ex_set, ev_var, lk_zero, Option.bind_some, kSet_ap, cosD, asg_cons, asg_nm, asg_nil, List.set, Option.map_some, kSq_nx, ev_comp, ei_seq, lk_succ, kSeq_ap]
  rw [show itOf M (boxD c.2) = some ⟨[], c.2.map rowD⟩ from rfl]
  simp only [Option.map_some, Option.bind_some, kCo_ap]
  rw [comp_yes rowD (fun r => fr r.1) c.2 rfl ?_]
  rotate_left
  · intro r hr
    simp [rowD, wipeD]
  rw [show (c.2.map fun r => fr r.1) = (c.2.map (·.1)).map fr by rw [List.map_map]; rfl]
  simp only [Option.bind_some, kNew_ap, new_f hlm, kSet_ap, asg_nm, List.set, Option.map_some, kSq_nx, ex_seq, ex_for, ei_r3, ev_op, ev_blt, es_cons, es_nil, ev_var, lk_zero, lk_succ, kCs1_ap, kCs2_ap, kBlt_ap, hlen, kOp1_ap, ev_con, kOp2_ap, so_sub, kR3a_ap, ev_neg, kNeg_ap, kR3b_ap, kR3c_ap]
  rw [if_pos (by rw [in62_small (by omega) (by omega)]; rfl), show ((c.2.length : Int) - 1 - -1).toNat = c.2.length by omega, rangeC_down]
  simp only [Option.bind_some, kFor_ap]
  rcases loop c.2.length (Nat.le_refl _) (some (.tup [fr c.1, boxD c.2])) none none none none none (fun j hj hm => by omega) with ⟨hn, a', b', e⟩ | ⟨hn, env', e⟩
  · rw [e]
    have hm := (h.lb _ (head_mem h)).1
    have hB := beyond_L h.lb hm hl
    have ix0 : L2.atI ((c.2.map (·.1)).map fr) 0 = some (fr (hdR c.2).1) := by
      have := h.bx.ne
      cases e : c.2 with
      | nil => exact absurd e this
      | cons a l => simp [hdR]
    simp only [Option.bind_some, kSq_nx, ex_seq, ex_ret, ev_call, es_cons, es_nil, ev_idx, ev_var, lk_zero, lk_succ, kIx1_ap, ev_con, kIx2_ap, ix_lst, ix0, Option.map_some, kCs1_ap, kCs2_ap, kCall_ap]
    rw [(pu_lbeyond h.bx h.lb hm (by decide) hl).at _ (by omega)]
    simp only [Option.bind_some, kCs1_ap, es_nil, kCs2_ap, kCall_ap]
    rw [(pu_lminus (h.lc.ok (by decide)) (hB.ok (by decide))).at _ (by omega)]
    simp only [Option.bind_some, kCs1_ap, es_nil, kCs2_ap, kCall_ap]
    have hsub : L 5 (c.1 - beyond c.2 (hdR c.2).1) := ((h.lc.mono (by decide)).sub hB).mono (by decide)
    rw [(pu_lminus (hm.ok (by decide)) (hsub.ok (by decide))).at _ (by omega)]
    have er : (hdR c.2).1 - (c.1 - beyond c.2 (hdR c.2).1) = reserve c.1 c.2 := by
      unfold reserve; rw [if_pos hn]; grind
    rw [er]
    simp
  · rw [e]
    simp
end X

set_option maxRecDepth 100000
namespace DL
open PySem
section
variable {M : Mm} {kvs : List (D × D)} {k x v : D}
theorem dic_last : dicOf (M ++ [.dic kvs]) (.ref M.length) = some kvs := by simp [dicOf, get_last]
theorem get_dic (h : keyOk k = true) : semM .get2 (M ++ [.dic kvs]) (.ref M.length) [k, x] = some ((findD kvs k).getD x, M ++ [.dic kvs]) := by
  simp [semM, dic_last, h]
theorem mo_get : mthOk .get2 (M ++ [.dic kvs]) (.ref M.length) = true := by simp [mthOk, dic_last]
theorem put_dic (h : keyOk k = true) (hl : kvs.length < lim) : semPut (M ++ [.dic kvs]) (.ref M.length) k v = some (M ++ [.dic (putD kvs k v)]) := by
  simp only [semPut, get_last, h, decide_eq_true hl, Bool.and_self, if_true, set_last]
theorem ix_dic (h : keyOk k = true) : semIx (M ++ [.dic kvs]) (.ref M.length) k = findD kvs k := by
  simp [semIx, dic_last, h]
theorem sk_dic : seqK (M ++ [.dic kvs]) (.ref M.length) = some (kvs.map (·.1)) := by simp [seqK, get_last]
end
end DL
namespace X
open DL PySem
theorem key_fr {q : Rat} : keyOk (fr q) = true := rfl
def ddD (p : Row) : D × D := (fr p.1, fr p.2)
theorem find_none {kv : List Row} {x : Rat} (h : ∀ p ∈ kv, p.1 ≠ x) : findD (kv.map ddD) (fr x) = none := by
  unfold findD
  rw [List.find?_eq_none.mpr]
  · rfl
  · intro p hp
    obtain ⟨r, hr, rfl⟩ := List.mem_map.mp hp
    intro e
    exact h r hr (fr_inj.mp (of_decide_eq_true e))
theorem find_last {kv : List Row} {x v : Rat} (h : ∀ p ∈ kv, p.1 ≠ x) : findD ((kv ++ [(x, v)]).map ddD) (fr x) = some (fr v) := by
  unfold findD
  rw [List.map_append, List.find?_append, List.find?_eq_none.mpr]
  · simp [ddD]
  · intro p hp
    obtain ⟨r, hr, rfl⟩ := List.mem_map.mp hp
    intro e
    exact h r hr (fr_inj.mp (of_decide_eq_true e))
theorem put_new {kv : List Row} {x v : Rat} (h : ∀ p ∈ kv, p.1 ≠ x) : putD (kv.map ddD) (fr x) (fr v) = (kv ++ [(x, v)]).map ddD := by
  unfold putD
  rw [find_none h]
  simp [ddD]
theorem put_old {kv : List Row} {x v u : Rat} (h : ∀ p ∈ kv, p.1 ≠ x) : putD ((kv ++ [(x, v)]).map ddD) (fr x) (fr u) = (kv ++ [(x, u)]).map ddD := by
  unfold putD
  rw [find_last h]
  simp only [Option.isSome_some, if_true, List.map_append, List.map_cons, List.map_nil, ddD, if_true]
  congr 1
  rw [List.map_map]
  apply List.map_congr_left
  intro r hr
  have : ¬ fr r.1 = fr x := fun e => h r hr (fr_inj.mp e)
  simp [ddD, this]
/-- what a strictly rising list is -/
theorem sorted_uniq : ∀ {a b : List Rat}, a.Pairwise (· < ·) → b.Pairwise (· < ·) → (∀ x, x ∈ a ↔ x ∈ b) → a = b := by
  intro a b ha hb h
  have nd : ∀ {l : List Rat}, l.Pairwise (· < ·) → l.Nodup := fun hl => hl.imp fun h e => by rw [e] at h; exact Rat.lt_irrefl h
  have p : a.Perm b := (List.perm_ext_iff_of_nodup (nd ha) (nd hb)).mpr h
  exact List.Perm.eq_of_pairwise (le := (· < ·)) (fun x y _ _ h1 h2 => by grind) ha hb p
theorem find_mem : ∀ {kv : List Row} {r : Row}, kv.Pairwise (fun a b => a.1 < b.1) → r ∈ kv → findD (kv.map ddD) (fr r.1) = some (fr r.2)
  | [], _, _, h => by simp at h
  | a :: kv, r, hp, h => by
    rw [List.pairwise_cons] at hp
    rcases List.mem_cons.mp h with e | m
    · subst e
      simp [findD, ddD]
    · have ne : ¬ fr a.1 = fr r.1 := fun e => by
        have := hp.1 r m
        rw [fr_inj.mp e] at this
        exact Rat.lt_irrefl this
      have ih := find_mem hp.2 m
      unfold findD at ih ⊢
      rw [List.map_cons, List.find?_cons_of_neg (by simp [ddD, ne])]
      exact ih
/-- the dict behind some rows -/
def capP (z : Rat) (done : List Row) : List Row := (done.filter fun r => decide (r.1 < z)) ++ (if (done.filter fun r => !decide (r.1 < z)) = [] then [] else [(z, rest z done)])
theorem lt_ne {z : Rat} {done : List Row} : ∀ p ∈ done.filter (fun r => decide (r.1 < z)), p.1 ≠ z := fun p hp e => by
  have : p.1 < z := by simpa using (List.mem_filter.mp hp).2
  rw [e] at this
  exact Rat.lt_irrefl this
theorem rest_snoc {z : Rat} {done : List Row} {r : Row} : rest z (done ++ [r]) = rest z done + (if r.1 < z then 0 else r.2) := by
  unfold rest
  rw [List.filter_append, List.map_append, List.sum_append]
  by_cases h : r.1 < z <;> simp [h, Rat.add_zero]
theorem pu_lcapped {c : Cos} (h : Wf c) : Pu defs 6 i__law_capped [cosD c] (boxD (cap c)) := by
  refine Pu.mkF (df := ⟨1, 6, true, b__law_capped⟩) rfl ⟨rfl, by decide⟩ rfl fun f M hf => ?_
  have hl : c.2.length ≤ 3 := h.len
  have hz := reserve_L h
  generalize hzz : reserve c.1 c.2 = z at hz
  have hcl : ∀ done : List Row, done.length ≤ 3 → (capP z done).length ≤ 4 := fun done hd => by
    unfold capP
    rw [List.length_append]
    have := List.length_filter_le (fun r => decide (r.1 < z)) done
    split <;> simp <;> omega
  have loop : ∀ (todo done : List Row) (x0 x1 x2 a b d : Option D), x1 = some (fr z) → x2 = some (.ref M.length) → done ++ todo = c.2 →
      ∃ a' b' d', forGo (exS (callN defs f) (.seq (.set (.nm 5) (.ite (.call i__law_less (.cons (.var 1) (.cons (.var 3) .nil))) (.var 1) (.var 3))) (.seq (.put (.var 2) (.var 5) (.call i__law_plus (.cons (.mth .get2 false (.var 2) (.cons (.var 5) (.cons (.tup (.cons (.con (.int 0)) (.cons (.con (.int 1)) .nil))) .nil))) (.cons (.var 4) .nil)))) .nil))) (.cons (.nm 3) (.cons (.nm 4) .nil)) [] (todo.map rowD) [x0, x1, x2, a, b, d] (M ++ [.dic ((capP z done).map ddD)])
        = some (.nx, [x0, x1, x2, a', b', d'], M ++ [.dic ((capP z c.2).map ddD)]) := by
    intro todo
    induction todo with
    | nil =>
      intro done x0 x1 x2 a b d _ _ e
      rw [List.append_nil] at e
      subst e
      exact ⟨a, b, d, by simp⟩
    | cons r todo ih =>
      intro done x0 x1 x2 a b d h1 h2 e
      subst h1 h2
      have hr : r ∈ c.2 := by rw [← e]; simp
      have hdl : done.length ≤ 3 := by
        have := congrArg List.length e
        simp at this; omega
      have hL := h.lb r hr
      have hinc := h.bx.inc
      rw [← e, List.pairwise_append] at hinc
      have hbef : ∀ s ∈ done, s.1 < r.1 := fun s hs => hinc.2.2 s hs r List.mem_cons_self
      have hrest : L 2 (rest z done) := L.sum (fun x hx => by
        obtain ⟨s, hs, rfl⟩ := List.mem_map.mp hx
        exact (h.lb s (by rw [← e]; exact List.mem_append_left _ (List.mem_filter.mp hs).1)).2) (by rw [List.length_map]; exact Nat.le_trans (List.length_filter_le _ _) (by omega))
      obtain ⟨a', b', d', e2⟩ := ih (done ++ [r]) x0 (some (fr z)) (some (.ref M.length)) (some (fr r.1)) (some (fr r.2)) (some (fr (if z < r.1 then z else r.1))) rfl rfl (by rw [List.append_assoc]; exact e)
      refine ⟨a', b', d', ?_⟩
      rw [List.map_cons, for_cons, ← e2]
      simp only [rowD, asg_cons, asg_nm, asg_nil, Option.bind_some, kTurn_ap, ex_seq, ex_set, ev_ite, et_call, ev_call, es_cons, es_nil, ev_var, lk_zero, lk_succ, kCs1_ap, kCs2_ap, kCall_ap, List.set]
      rw [(pu_lless (hz.ok (by decide)) (hL.1.ok (by decide))).at _ (by omega)]
      have key : ∀ M', ((some (D.bl (decide (z < r.1)), M')).bind kTr).bind (kIte (callN defs f) (.var 1) (.var 3) [x0, some (fr z), some (.ref M.length), some (fr r.1), some (fr r.2), d]) = some (fr (if z < r.1 then z else r.1), M') := fun M' => by
        by_cases hzr : z < r.1 <;> simp [hzr]
      rw [key]
      simp only [Option.bind_some, kSet_ap, asg_nm, List.set, Option.map_some, kSq_nx, ex_seq, ex_put, ev_call, es_cons, ev_mth, ev_var, lk_zero, lk_succ, kMt1_ap, mo_get, if_true, ev_tup, ev_con, es_nil, kCs1_ap, kCs2_ap, kTup_ap, List.length_cons, List.length_nil, Nat.zero_add, Nat.reduceAdd, lim2, kMt2_ap, get_dic key_fr]
      have sum0 : (D.tup [.int 0, .int 1]) = fr 0 := rfl
      rw [sum0]
      by_cases hrz : r.1 < z
      · have nz : ¬ z < r.1 := fun q => Rat.lt_irrefl (Std.lt_trans q hrz)
        have none_ge : done.filter (fun s => !decide (s.1 < z)) = [] := List.filter_eq_nil_iff.mpr fun s hs => by
          have : s.1 < z := Std.lt_trans (hbef s hs) hrz
          simp [this]
        have all_lt : done.filter (fun s => decide (s.1 < z)) = done := List.filter_eq_self.mpr fun s hs => by
          have : s.1 < z := Std.lt_trans (hbef s hs) hrz
          simp [this]
        have e3 : capP z done = done := by unfold capP; rw [none_ge, all_lt]; simp
        have e4 : capP z (done ++ [r]) = done ++ [(r.1, r.2)] := by
          unfold capP
          rw [List.filter_append, List.filter_append, none_ge, all_lt]
          simp [hrz]
        have nin : ∀ p ∈ done, p.1 ≠ r.1 := fun p hp q => by
          have := hbef p hp
          rw [q] at this
          exact Rat.lt_irrefl this
        rw [if_neg nz, e3, e4, find_none nin]
        simp only [Option.getD_none, Option.bind_some, kCs1_ap, es_cons, es_nil, ev_var, lk_zero, lk_succ, kCs2_ap, kCall_ap]
        rw [(pu_lplus ((L.zero (k := 1)).ok (by decide)) (hL.2.ok (by decide))).at _ (by omega), Rat.zero_add]
        simp only [Option.bind_some, kPut1_ap, ev_var, lk_zero, lk_succ, kPut2_ap, kPut3_ap]
        rw [put_dic key_fr (Nat.lt_of_lt_of_le (show (done.map ddD).length < 64 by rw [List.length_map]; omega) (by decide)), put_new nin]
        simp
      · have hge : z ≤ r.1 := Rat.not_lt.mp hrz
        have ek : (if z < r.1 then z else r.1) = z := by
          by_cases q : z < r.1
          · rw [if_pos q]
          · rw [if_neg q]; exact Rat.le_antisymm (Rat.not_lt.mp q) hge
        rw [ek]
        have e4 : capP z (done ++ [r]) = (done.filter fun s => decide (s.1 < z)) ++ [(z, rest z done + r.2)] := by
          unfold capP
          rw [List.filter_append, List.filter_append, rest_snoc]
          simp [hrz]
        rw [e4]
        by_cases hg : done.filter (fun s => !decide (s.1 < z)) = []
        · have e3 : capP z done = done.filter fun s => decide (s.1 < z) := by unfold capP; rw [if_pos hg, List.append_nil]
          have r0 : rest z done = 0 := by unfold rest; rw [hg]; rfl
          rw [e3, find_none lt_ne, r0]
          simp only [Option.getD_none, Option.bind_some, kCs1_ap, es_cons, es_nil, ev_var, lk_zero, lk_succ, kCs2_ap, kCall_ap]
          rw [(pu_lplus ((L.zero (k := 1)).ok (by decide)) (hL.2.ok (by decide))).at _ (by omega)]
          simp only [Option.bind_some, kPut1_ap, ev_var, lk_zero, lk_succ, kPut2_ap, kPut3_ap]
          rw [put_dic key_fr (Nat.lt_of_lt_of_le (show ((done.filter fun s => decide (s.1 < z)).map ddD).length < 64 by rw [List.length_map]; have := List.length_filter_le (fun s => decide (s.1 < z)) done; omega) (by decide)), put_new lt_ne]
          simp
        · have e3 : capP z done = (done.filter fun s => decide (s.1 < z)) ++ [(z, rest z done)] := by unfold capP; rw [if_neg hg]
          rw [e3, find_last lt_ne]
          simp only [Option.getD_some, Option.bind_some, kCs1_ap, es_cons, es_nil, ev_var, lk_zero, lk_succ, kCs2_ap, kCall_ap]
          rw [(pu_lplus (hrest.ok (by decide)) (hL.2.ok (by decide))).at _ (by omega)]
          simp only [Option.bind_some, kPut1_ap, ev_var, lk_zero, lk_succ, kPut2_ap, kPut3_ap]
          rw [put_dic key_fr (Nat.lt_of_lt_of_le (show (((done.filter fun s => decide (s.1 < z)) ++ [(z, rest z done)]).map ddD).length < 64 by rw [List.length_map, List.length_append]; have := List.length_filter_le (fun s => decide (s.1 < z)) done; simp; omega) (by decide)), put_old lt_ne]
          simp
  have hcap : capP z c.2 = cap c := by
    unfold X.cap capB capP
    rw [hzz]
    obtain ⟨r, hr, hw⟩ := h.res
    rw [hzz] at hw
    have : ¬ (c.2.filter fun r => !decide (r.1 < z)) = [] := fun q => by
      have := List.filter_eq_nil_iff.mp q r hr
      simp at this
      grind
    rw [if_neg this]
  obtain ⟨a', b', d', e⟩ := loop c.2 [] (some (cosD c)) (some (fr z)) (some (.ref M.length)) none none none rfl rfl rfl
  have hcb := h.cap
  have hkeys : ((cap c).map ddD).map (·.1) = ((cap c).map (·.1)).map fr := by rw [List.map_map, List.map_map]; rfl
  have hl4 := cap_length h
  have hfst : ∀ x ∈ (cap c).map (·.1), L 7 x := (cap_L h).fst
  have hio : inOrder ((cap c).map (·.1)) = (cap c).map (·.1) := by
    obtain ⟨i1, i2, _⟩ := inOrder_props ((cap c).map (·.1))
    exact sorted_uniq i1 (fst_sorted hcb) i2
  refine ⟨boxD (cap c), [some (cosD c), some (fr z), some (.ref M.length), a', b', d'], [.dic ((cap c).map ddD)], ?_, by simp, ?_⟩
  · have hres := (pu_lreserve h).at M (k := f) (by omega)
    rw [hzz] at hres
    have ixc : ∀ M', semIx M' (cosD c) (.int 1) = some (boxD c.2) := fun M' => by simp [cosD]
    simp only [b__law_capped, List.replicate, List.map, List.cons_append, List.nil_append, ex_seq, ex_set, ev_tup, es_cons, ev_call, es_nil, ev_var, lk_zero, Option.bind_some, kCs1_ap, kCs2_ap, kCall_ap]
    rw [hres]
    simp only [Option.bind_some, kCs1_ap, es_cons, ev_dict0, es_nil, kCs2_ap, kTup_ap, List.length_cons, List.length_nil, Nat.zero_add, Nat.reduceAdd, lim2, if_true, kSet_ap, asg_cons, asg_nm, asg_nil, List.set, Option.map_some, kSq_nx, ex_seq, ex_for, ei_seq, ev_idx, ev_var, lk_zero, kIx1_ap, ev_con, kIx2_ap, ixc, kSeq_ap]
    rw [show itOf (M ++ [.dic []]) (boxD c.2) = some ⟨[], c.2.map rowD⟩ from rfl]
    simp only [Option.map_some, Option.bind_some, kFor_ap]
    have e' : forGo _ _ _ _ _ (M ++ [MO.dic []]) = _ := e
    rw [e', hcap]
    simp only [Option.bind_some, kSq_nx, ex_seq, ex_ret, ev_blt, es_cons, es_nil, ev_comp, ei_seq, ev_call, ev_var, lk_zero, lk_succ, kCs1_ap, kCs2_ap, kBlt_ap]
    have hlist : semB .list false [.ref M.length] (M ++ [.dic ((cap c).map ddD)]) = some (.lst (((cap c).map (·.1)).map fr), M ++ [.dic ((cap c).map ddD)]) := by
      simp only [semB, sk_dic, Option.bind_eq_bind, Option.bind_some, hkeys]
      exact new_f (by rw [List.length_map, List.length_map]; exact lim64 (by omega))
    rw [hlist]
    simp only [Option.bind_some, kCs1_ap, es_nil, kCs2_ap, kCall_ap]
    rw [(pu_lin_order hfst (by decide) (by rw [List.length_map]; omega)).at _ (by omega), hio]
    simp only [Option.bind_some, kSeq_ap, it_lst, Option.map_some, kCo_ap]
    rw [List.map_map, comp_yes (fr ∘ fun r : Row => r.1) rowD (cap c) rfl ?_]
    rotate_left
    · intro r hr
      simp only [Function.comp, wipeD, List.set, asg_nm, Option.bind_some, ev_tup, es_cons, es_nil, ev_idx, ev_var, lk_zero, lk_succ, kIx1_ap, kIx2_ap, kCs1_ap, ix_dic key_fr, find_mem hcb.inc hr, Option.map_some, kCs2_ap, kTup_ap, List.length_cons, List.length_nil, Nat.zero_add, Nat.reduceAdd, lim2, if_true]
      rfl
    have hll : ((cap c).map rowD).length ≤ lim := by rw [List.length_map]; exact lim64 (by omega)
    simp only [Option.bind_some, kNew_ap, new_f hll, kCs1_ap, es_nil, kCs2_ap, kBlt_ap, tup_lst hll, kRet_ap, kSq_rt]
    rfl
  · exact frz_cl (k := 7) (show cls M.length ((cap c).map rowD) = true from cl_of _ fun d m => by
      obtain ⟨r, _, rfl⟩ := List.mem_map.mp m
      rfl)
end X

set_option maxRecDepth 100000
namespace X
/-! ### the order of opening -/
section
variable {b : List Row} {bs : List (List Row)} {y z x w : Rat}
theorem em_cons : em (b :: bs) y = ex b fun x => em bs (gt y x) := rfl
theorem gt_mono (h : y ≤ z) : gt y x ≤ gt z x := gt_le (Rat.le_trans h (le_gt z x)) (le_gt2 z x)
theorem gt_diff (h : y ≤ z) : gt z x - gt y x ≤ z - y := by unfold gt; split <;> split <;> grind
theorem em_mono : ∀ {bs : List (List Row)} {y z : Rat}, (∀ b ∈ bs, Bx b) → y ≤ z → em bs y ≤ em bs z
  | [], _, _, _, h => h
  | b :: bs, y, z, hb, h => by
    rw [em_cons, em_cons]
    exact ex_le (hb b List.mem_cons_self).nn fun r _ => em_mono (fun c m => hb c (List.mem_cons_of_mem _ m)) (gt_mono h)
theorem em_lip : ∀ {bs : List (List Row)} {y z : Rat}, (∀ b ∈ bs, Bx b) → y ≤ z → em bs z ≤ em bs y + (z - y)
  | [], y, z, _, h => by show z ≤ y + (z - y); grind
  | b :: bs, y, z, hb, h => by
    rw [em_cons, em_cons, ← (hb b List.mem_cons_self).const (c := z - y), ← ex_add]
    refine ex_le (hb b List.mem_cons_self).nn fun r _ => ?_
    have h1 := em_lip (fun c m => hb c (List.mem_cons_of_mem _ m)) (gt_mono (x := r.1) h)
    have h2 := gt_diff (x := r.1) h
    grind
theorem em_strict : ∀ {bs : List (List Row)} {y z : Rat}, (∀ b ∈ bs, Bx b) → y < z → (∃ b ∈ bs, ∃ r ∈ b, y < r.1) → em bs z < em bs y + (z - y)
  | [], y, z, _, h, he => by obtain ⟨b, hb, _⟩ := he; simp at hb
  | b :: bs, y, z, hb, h, he => by
    have hB := hb b List.mem_cons_self
    have hbs : ∀ c ∈ bs, Bx c := fun c m => hb c (List.mem_cons_of_mem _ m)
    rw [em_cons, em_cons, ← hB.const (c := z - y), ← ex_add]
    have le : ∀ r ∈ b, em bs (gt z r.1) ≤ em bs (gt y r.1) + (z - y) := fun r _ => by
      have h1 := em_lip hbs (gt_mono (x := r.1) (Rat.le_of_lt h))
      have h2 := gt_diff (x := r.1) (Rat.le_of_lt h)
      grind
    have big : ∀ r ∈ b, y < r.1 → em bs (gt z r.1) < em bs (gt y r.1) + (z - y) := fun r _ hr => by
      have h1 := em_lip hbs (gt_mono (x := r.1) (Rat.le_of_lt h))
      have h2 : gt z r.1 - gt y r.1 < z - y := by unfold gt; rw [if_pos hr]; split <;> grind
      grind
    obtain ⟨c, hc, r, hr, hw⟩ := he
    rcases List.mem_cons.mp hc with e | m
    · subst e
      exact ex_lt hB.pos le hr (big r hr hw)
    · obtain ⟨s, hs⟩ := List.exists_mem_of_ne_nil _ hB.ne
      refine ex_lt hB.pos le hs ?_
      by_cases hsy : y < s.1
      · exact big s hs hsy
      · have e1 : gt y s.1 = y := by unfold gt; rw [if_neg hsy]
        have e2 : gt z s.1 = z := by unfold gt; rw [if_neg (by grind)]
        rw [e1, e2]
        exact em_strict hbs h ⟨c, m, r, hr, hw⟩
theorem em_ge : ∀ {bs : List (List Row)} {y : Rat}, (∀ b ∈ bs, Bx b) → y ≤ em bs y
  | [], y, _ => Rat.le_refl
  | b :: bs, y, hb => by
    rw [em_cons, ← (hb b List.mem_cons_self).const (c := y)]
    refine ex_le (hb b List.mem_cons_self).nn fun r _ => ?_
    rw [(hb b List.mem_cons_self).const]
    exact Rat.le_trans (le_gt y r.1) (em_ge fun c m => hb c (List.mem_cons_of_mem _ m))
theorem em_top : ∀ {bs : List (List Row)} {y : Rat}, (∀ b ∈ bs, Bx b) → (∀ b ∈ bs, ∀ r ∈ b, r.1 ≤ y) → em bs y = y
  | [], y, _, _ => rfl
  | b :: bs, y, hb, h => by
    rw [em_cons]
    have e : ex b (fun x => em bs (gt y x)) = ex b fun _ => y := ex_congr fun r hr => by
      have hr' := h b List.mem_cons_self r hr
      have : gt y r.1 = y := by unfold gt; rw [if_neg (by grind)]
      rw [this]
      exact em_top (fun c m => hb c (List.mem_cons_of_mem _ m)) fun c m => h c (List.mem_cons_of_mem _ m)
    rw [e, (hb b List.mem_cons_self).const]
theorem em_gt : ∀ {bs : List (List Row)} {y : Rat}, (∀ b ∈ bs, Bx b) → (∃ b ∈ bs, ∃ r ∈ b, y < r.1) → y < em bs y
  | [], y, hb, he => by obtain ⟨b, hb, _⟩ := he; simp at hb
  | b :: bs, y, hb, he => by
    have hB := hb b List.mem_cons_self
    have hbs : ∀ c ∈ bs, Bx c := fun c m => hb c (List.mem_cons_of_mem _ m)
    have le : ∀ r ∈ b, y ≤ em bs (gt y r.1) := fun r _ => Rat.le_trans (le_gt y r.1) (em_ge hbs)
    have big : ∀ r ∈ b, y < r.1 → y < em bs (gt y r.1) := fun r _ hr => Std.lt_of_lt_of_le (Std.lt_of_lt_of_le hr (le_gt2 y r.1)) (em_ge hbs)
    have e0 : ex b (fun _ => y) = y := hB.const
    rw [em_cons]
    suffices h : ex b (fun _ => y) < ex b fun x => em bs (gt y x) by rwa [e0] at h
    obtain ⟨c, hc, r, hr, hw⟩ := he
    rcases List.mem_cons.mp hc with e | m
    · subst e
      exact ex_lt hB.pos le hr (big r hr hw)
    · obtain ⟨s, hs⟩ := List.exists_mem_of_ne_nil _ hB.ne
      refine ex_lt hB.pos le hs ?_
      by_cases hsy : y < s.1
      · exact big s hs hsy
      · have e1 : gt y s.1 = y := by unfold gt; rw [if_neg hsy]
        rw [e1]
        exact em_gt hbs ⟨c, m, r, hr, hw⟩
theorem ex_comm {a b : List Row} {f : Rat → Rat → Rat} : ex a (fun x => ex b fun w => f x w) = ex b fun w => ex a fun x => f x w := by
  induction a with
  | nil =>
    have : ex b (fun _ => (0 : Rat)) = 0 := by rw [ex_const]; grind
    exact this.symm
  | cons r a ih =>
    rw [ex_cons, ih, ← ex_smul, ← ex_add]
    rfl
theorem gt_swap : gt (gt y x) w = gt (gt y w) x := by
  unfold gt
  by_cases h1 : y < x <;> by_cases h2 : y < w <;> by_cases h3 : x < w <;> by_cases h4 : w < x <;> simp [h1, h2, h3, h4] <;> grind
theorem em_perm {as bs : List (List Row)} (h : as.Perm bs) : ∀ y, em as y = em bs y := by
  induction h with
  | nil => intro y; rfl
  | cons b _ ih => intro y; rw [em_cons, em_cons]; exact ex_congr fun r _ => ih _
  | swap a b l =>
    intro y
    rw [em_cons, em_cons]
    have e1 : ex b (fun x => em (a :: l) (gt y x)) = ex b fun x => ex a fun w => em l (gt (gt y x) w) := rfl
    have e2 : ex a (fun x => em (b :: l) (gt y x)) = ex a fun w => ex b fun x => em l (gt (gt y w) x) := rfl
    rw [e1, e2, ex_comm]
    exact ex_congr fun r _ => ex_congr fun s _ => by rw [gt_swap]
  | trans _ _ h1 h2 => intro y; rw [h1, h2]
end
/-- the worth of opening c first, when the rest is S -/
def opn (S : List Cos) (c : Cos) (y : Rat) : Rat := ex c.2 (fun x => em (S.map cap) (gt y x)) - c.1
section
variable {S : List Cos} {c : Cos} {y : Rat}
theorem caps_bx (h : ∀ c ∈ S, Wf c) : ∀ b ∈ S.map cap, Bx b := fun b m => by
  obtain ⟨c, hc, rfl⟩ := List.mem_map.mp m
  exact (h c hc).cap
theorem cost_ex (h : Wf c) : c.1 = ex c.2 fun x => gt (reserve c.1 c.2) x - reserve c.1 c.2 := by
  rw [← beyond_ex h.bx, reserve_eq h.bx h.pos]
/-- value less opening, point by point -/
theorem gain (h : Wf c) : em ((c :: S).map cap) y - opn S c y = ex c.2 fun x => em (S.map cap) (gt y (lt' x (reserve c.1 c.2))) - em (S.map cap) (gt y x) + (gt (reserve c.1 c.2) x - reserve c.1 c.2) := by
  rw [ex_add, ex_sub, ← cost_ex h]
  rw [List.map_cons, em_cons]
  unfold opn
  have : ex (cap c) (fun x => em (S.map cap) (gt y x)) = ex c.2 fun x => em (S.map cap) (gt y (lt' x (reserve c.1 c.2))) := ex_cap
  rw [this]
  grind
theorem gain_pt (hS : ∀ c ∈ S, Wf c) (x z : Rat) : 0 ≤ em (S.map cap) (gt y (lt' x z)) - em (S.map cap) (gt y x) + (gt z x - z) := by
  by_cases h : x < z
  · have e1 : lt' x z = x := by unfold lt'; rw [if_pos h]
    have e2 : gt z x = z := by unfold gt; rw [if_neg (by grind)]
    rw [e1, e2]; grind
  · have e1 : lt' x z = z := by unfold lt'; rw [if_neg h]
    have hm : gt y z ≤ gt y x := gt_le (le_gt y x) (Rat.le_trans (Rat.not_lt.mp h) (le_gt2 y x))
    have hl := em_lip (caps_bx hS) hm
    rw [e1]
    have : gt y x - gt y z ≤ gt z x - z := by unfold gt; split <;> split <;> split <;> grind
    grind
theorem opn_le (hS : ∀ c ∈ S, Wf c) (h : Wf c) : opn S c y ≤ em ((c :: S).map cap) y := by
  have g := gain (S := S) (y := y) h
  have : 0 ≤ em ((c :: S).map cap) y - opn S c y := by
    rw [g, ← h.bx.const (c := 0)]
    exact ex_le h.bx.nn fun r _ => gain_pt hS _ _
  grind
theorem opn_eq (hS : ∀ c ∈ S, Wf c) (h : Wf c) (hy : y ≤ reserve c.1 c.2) (hm : ∀ d ∈ S, reserve d.1 d.2 ≤ reserve c.1 c.2) : opn S c y = em ((c :: S).map cap) y := by
  have g := gain (S := S) (y := y) h
  have top : ∀ v, reserve c.1 c.2 ≤ v → em (S.map cap) v = v := fun v hv => em_top (caps_bx hS) fun b hb r hr => by
    obtain ⟨d, hd, rfl⟩ := List.mem_map.mp hb
    exact Rat.le_trans (cap_mem (x := 0) hr) (Rat.le_trans (hm d hd) hv)
  have : em ((c :: S).map cap) y - opn S c y = 0 := by
    rw [g, ← h.bx.const (c := 0)]
    refine ex_congr fun r _ => ?_
    generalize reserve c.1 c.2 = z at hy top
    by_cases q : r.1 < z
    · have e1 : lt' r.1 z = r.1 := by unfold lt'; rw [if_pos q]
      have e2 : gt z r.1 = z := by unfold gt; rw [if_neg (by grind)]
      rw [e1, e2]; grind
    · have e1 : lt' r.1 z = z := by unfold lt'; rw [if_neg q]
      have a1 : z ≤ gt y z := le_gt2 y z
      have a2 : z ≤ gt y r.1 := Rat.le_trans (Rat.not_lt.mp q) (le_gt2 y r.1)
      rw [e1, top _ a1, top _ a2]
      unfold gt; split <;> split <;> split <;> grind
  grind
theorem opn_lt (hS : ∀ c ∈ S, Wf c) (h : Wf c) (hb : reserve c.1 c.2 < y ∨ ∃ d ∈ S, reserve c.1 c.2 < reserve d.1 d.2) : opn S c y < em ((c :: S).map cap) y := by
  have g := gain (S := S) (y := y) h
  have : 0 < em ((c :: S).map cap) y - opn S c y := by
    rw [g, ← h.bx.const (c := 0)]
    obtain ⟨r, hr, hw⟩ := h.res
    refine ex_lt h.bx.pos (fun r _ => gain_pt hS _ _) hr ?_
    generalize hz : reserve c.1 c.2 = z at hb hw
    have e1 : lt' r.1 z = z := by unfold lt'; rw [if_neg (by grind)]
    have e2 : gt z r.1 = r.1 := by unfold gt; rw [if_pos hw]
    have hm : gt y z ≤ gt y r.1 := gt_le (le_gt y r.1) (Rat.le_trans (Rat.le_of_lt hw) (le_gt2 y r.1))
    rw [e1, e2]
    by_cases hyz : z < y
    · have hl := em_lip (caps_bx hS) hm
      have : gt y r.1 - gt y z < r.1 - z := by unfold gt; split <;> split <;> grind
      grind
    · obtain ⟨d, hd, hlt⟩ : ∃ d ∈ S, z < reserve d.1 d.2 := hb.resolve_left hyz
      have ey : gt y z = z := by unfold gt; split <;> grind
      have ey2 : gt y r.1 = r.1 := by unfold gt; rw [if_pos (by grind)]
      have hs := em_strict (caps_bx hS) (y := z) (z := r.1) hw ⟨cap d, List.mem_map.mpr ⟨d, hd, rfl⟩, (reserve d.1 d.2, rest (reserve d.1 d.2) d.2), by unfold cap capB; simp, hlt⟩
      rw [ey, ey2]
      grind
  grind
/-- when no reserve lies above the offer, stop -/
theorem stop_eq (hS : ∀ c ∈ S, Wf c) (hm : ∀ d ∈ S, reserve d.1 d.2 ≤ y) : em (S.map cap) y = y := em_top (caps_bx hS) fun b hb r hr => by
  obtain ⟨d, hd, rfl⟩ := List.mem_map.mp hb
  exact Rat.le_trans (cap_mem (x := 0) hr) (hm d hd)
theorem stop_lt (hS : ∀ c ∈ S, Wf c) (hm : ∃ d ∈ S, y < reserve d.1 d.2) : y < em (S.map cap) y := by
  obtain ⟨d, hd, hlt⟩ := hm
  exact em_gt (caps_bx hS) ⟨cap d, List.mem_map.mpr ⟨d, hd, rfl⟩, (reserve d.1 d.2, rest (reserve d.1 d.2) d.2), by unfold cap capB; simp, hlt⟩
end
end X

set_option maxRecDepth 100000
namespace X
open DL PySem
theorem m_lopen {M : Mm} {d vd : D} {cs S : List Cos} {c : Cos} {n k : Nat} {y : Rat} {mask sh mk : Int} (hix : semIx M d (.int (k : Nat)) = some (cosD c)) (hc : Wf c) (hS : ∀ c ∈ S, Wf c) (hl : S.length ≤ 4) (hy : L n y) (hn : n ≤ 65) (hn7 : 7 ≤ n)
    (hsh : ∀ M, semO false M .shl (.int 1) (.int (k : Nat)) = some (.int sh, M)) (hor : Builtin.bitOr mask sh = mk)
    (hv : ∀ r ∈ c.2, semIx M vd (.tup [.int mk, fr (gt y r.1)]) = some (fr (em (S.map cap) (gt y r.1)))) :
    PuM defs 4 i__law_open [d, vd, .int mask, fr y, .int (k : Nat)] M (fr (opn S c y)) := by
  refine PuM.mk (df := ⟨5, 10, true, b__law_open⟩) rfl ⟨rfl, by decide⟩ fun f hf => ?_
  simp only [b__law_open, List.replicate, List.map, List.cons_append, List.nil_append, ex_seq, ex_set, ev_idx, ev_var, lk_zero, lk_succ, Option.bind_some, kIx1_ap, kIx2_ap, hix, Option.map_some, kSet_ap]
  rw [show asg (.cons (.nm 5) (.cons (.nm 6) .nil)) (cosD c) [some d, some vd, some (D.int mask), some (fr y), some (D.int (k : Nat)), none, none, none, none, none] = some [some d, some vd, some (D.int mask), some (fr y), some (D.int (k : Nat)), some (fr c.1), some (boxD c.2), none, none, none] from rfl]
  simp only [Option.map_some, Option.bind_some, kSq_nx, ex_seq, ex_setc, ev_comp, ei_seq, ev_var, lk_zero, lk_succ, kSeq_ap]
  rw [show itOf M (boxD c.2) = some ⟨[], c.2.map rowD⟩ from rfl]
  simp only [Option.map_some, Option.bind_some, kCo_ap]
  have hLe : ∀ r ∈ c.2, L (12 + n) (em (S.map cap) (gt y r.1)) := fun r hr =>
    (em_L hS (hy.gt ((hc.lb r hr).1.mono (by omega))) hn7).mono (by omega)
  rw [comp_yes rowD (fun r => fr (r.2 * em (S.map cap) (gt y r.1))) c.2 rfl ?_]
  rotate_left
  · intro r hr
    simp only [rowD, wipeD, List.set, asg_cons, asg_nm, asg_nil, Option.bind_some, ev_call, es_cons, ev_var, lk_zero, lk_succ, kCs1_ap, ev_idx, kIx1_ap, ev_tup, ev_op, kOp1_ap, ev_con, kOp2_ap, hsh, so_bor, hor, es_nil, kCs2_ap, kCall_ap]
    rw [(pu_lgreater (hy.ok (by omega)) ((hc.lb r hr).1.ok (by decide))).at _ (by omega)]
    simp only [Option.bind_some, kCs1_ap, es_nil, kCs2_ap, kTup_ap, List.length_cons, List.length_nil, Nat.zero_add, Nat.reduceAdd, lim2, if_true, kIx2_ap, hv r hr, Option.map_some, kCall_ap]
    rw [(pu_ltimes ((hc.lb r hr).2.ok (by decide)) ((hLe r hr).ok (by omega))).at _ (by omega)]
  have hcl : c.2.length ≤ 64 := by have := hc.len; omega
  simp only [Option.bind_some, kNew_ap, new_f (show (c.2.map fun r => fr (r.2 * em (S.map cap) (gt y r.1))).length ≤ lim by rw [List.length_map]; exact lim64 hcl), kSetc_ap, List.set, kSq_nx, ex_seq, ex_ret, ev_call, es_cons, es_nil, ev_var, lk_zero, lk_succ, kCs1_ap, kCs2_ap, kCall_ap]
  have hxs : ∀ x ∈ c.2.map (fun r => r.2 * em (S.map cap) (gt y r.1)), L (13 + n) x := fun x m => by
    obtain ⟨r, hr, rfl⟩ := List.mem_map.mp m
    exact ((hc.lb r hr).2.mul (hLe r hr)).mono (by omega)
  have := (pu_ltotal hxs (by omega) (by rw [List.length_map]; exact hcl)).at M (k := f) (by omega)
  rw [List.map_map] at this
  rw [show (c.2.map fun r => fr (r.2 * em (S.map cap) (gt y r.1))) = c.2.map (fr ∘ fun r => r.2 * em (S.map cap) (gt y r.1)) from rfl, this]
  simp only [Option.bind_some, kCs1_ap, es_cons, ev_var, lk_zero, lk_succ, kCs2_ap, es_nil, kCall_ap]
  rw [(pu_lminus ((L.sum hxs (by rw [List.length_map]; exact hcl)).ok (by omega)) (hc.lc.ok (by decide))).at _ (by omega)]
  simp [opn, ex]
end X

set_option maxRecDepth 100000
namespace DL
open PySem
theorem find_put {kvs : List (D × D)} {k k' v : D} : findD (putD kvs k v) k' = if k = k' then some v else findD kvs k' := by
  unfold putD
  by_cases hs : (findD kvs k).isSome = true
  · rw [if_pos hs]
    induction kvs with
    | nil => simp [findD] at hs
    | cons p kvs ih =>
      unfold findD at hs ih ⊢
      by_cases hp : p.1 = k
      · subst hp
        by_cases hk : p.1 = k'
        · simp [hk]
        · simp only [List.map_cons, if_true, if_neg hk]
          rw [List.find?_cons_of_neg (by simp [hk]), List.find?_cons_of_neg (by simp [hk])]
          clear ih hs
          induction kvs with
          | nil => rfl
          | cons q kvs ih2 =>
            by_cases hq : q.1 = p.1
            · simp only [List.map_cons, if_pos hq]
              rw [List.find?_cons_of_neg (by simp [hq, hk]), List.find?_cons_of_neg (by rw [hq]; simp [hk])]
              exact ih2
            · simp only [List.map_cons, if_neg hq]
              by_cases hq2 : q.1 = k'
              · simp [hq2]
              · rw [List.find?_cons_of_neg (by simp [hq2]), List.find?_cons_of_neg (by simp [hq2])]
                exact ih2
      · rw [List.find?_cons_of_neg (by simp [hp])] at hs
        simp only [List.map_cons, if_neg hp]
        by_cases hk : p.1 = k'
        · have : ¬ k = k' := fun e => hp (by rw [hk, e])
          simp [hk, this]
        · rw [List.find?_cons_of_neg (by simp [hk]), List.find?_cons_of_neg (by simp [hk])]
          exact ih hs
  · rw [if_neg hs]
    have hn : findD kvs k = none := by
      cases e : findD kvs k with
      | none => rfl
      | some x => rw [e] at hs; simp at hs
    unfold findD at hn ⊢
    rw [List.find?_append]
    by_cases hk : k = k'
    · subst hk
      have hn' : kvs.find? (fun p => decide (p.1 = k)) = none := by
        cases e : kvs.find? (fun p => decide (p.1 = k)) with
        | none => rfl
        | some x => rw [e] at hn; simp at hn
      rw [hn']
      simp
    · cases e : kvs.find? (fun p => decide (p.1 = k')) with
      | none => simp [hk]
      | some x => simp [hk]
theorem put_len {kvs : List (D × D)} {k v : D} : (putD kvs k v).length ≤ kvs.length + 1 := by
  unfold putD
  split <;> simp
end DL
namespace X
open DL PySem
theorem bit_shl : ∀ k : Nat, k < 3 → ∀ M, semO false M .shl (.int 1) (.int (k : Nat)) = some (.int (2 ^ k : Nat), M) := by
  intro k hk M
  match k, hk with
  | 0, _ => rfl
  | 1, _ => rfl
  | 2, _ => rfl
theorem bit_or : ∀ m < 8, ∀ k < 3, Nat.testBit m k = false → Builtin.bitOr (m : Int) ((2 ^ k : Nat) : Int) = ((m + 2 ^ k : Nat) : Int) := by decide +kernel
theorem bit_test : ∀ m < 8, ∀ k < 3, Builtin.bitAnd (((m : Nat) : Int) / 2 ^ ((k : Nat) : Int).toNat) 1 = if Nat.testBit m k then 1 else 0 := by decide +kernel
theorem bit_up : ∀ n < 4, ∀ m < 2 ^ n, ∀ k < n, Nat.testBit m k = false → m + 2 ^ k < 2 ^ n := by decide +kernel
theorem bit_set : ∀ m < 8, ∀ k < 3, Nat.testBit m k = false → ∀ i < 3, Nat.testBit (m + 2 ^ k) i = (Nat.testBit m i || decide (i = k)) := by decide +kernel
/-- what is not opened yet -/
def rem (cs : List Cos) (m : Nat) : List Cos := sel cs fun i => !Nat.testBit m i
theorem filter_perm {c : Cos} {k : Nat} {p : Nat → Bool} : ∀ {l : List (Cos × Nat)}, (l.map (·.2)).Nodup → (c, k) ∈ l → p k = true → (l.filter fun q => p q.2).Perm ((c, k) :: l.filter fun q => p q.2 && !decide (q.2 = k))
  | [], _, h, _ => by simp at h
  | a :: l, hn, h, hp => by
    rw [List.map_cons, List.nodup_cons] at hn
    rcases List.mem_cons.mp h with e | m
    · subst e
      rw [List.filter_cons_of_pos (by exact hp), List.filter_cons_of_neg (by simp)]
      have : (l.filter fun q => p q.2) = l.filter fun q => p q.2 && !decide (q.2 = k) := by
        apply List.filter_congr
        intro q hq
        have : ¬ q.2 = k := fun e => hn.1 (List.mem_map.mpr ⟨q, hq, e⟩)
        simp [this]
      rw [this]
    · have ne : ¬ a.2 = k := fun e => hn.1 (List.mem_map.mpr ⟨(c, k), m, e.symm⟩)
      have ih := filter_perm hn.2 m hp
      by_cases ha : p a.2 = true
      · rw [List.filter_cons_of_pos (by exact ha), List.filter_cons_of_pos (by simp [ha, ne])]
        exact (ih.cons a).trans (List.Perm.swap _ _ _)
      · rw [List.filter_cons_of_neg (by exact ha), List.filter_cons_of_neg (by simp [ha])]
        exact ih
theorem sel_perm {cs : List Cos} {c : Cos} {k : Nat} {p : Nat → Bool} (hk : cs[k]? = some c) (hp : p k = true) : (sel cs p).Perm (c :: sel cs fun i => p i && !decide (i = k)) := by
  unfold sel
  have nd : (cs.zipIdx.map (·.2)).Nodup := by
    rw [List.zipIdx_map_snd]
    exact List.nodup_range'
  have hm : (c, k) ∈ cs.zipIdx := List.mk_mem_zipIdx_iff_getElem?.mpr hk
  have := (filter_perm nd hm hp).map (fun q => q.1)
  rw [List.map_cons] at this
  exact this
theorem sel_congr {cs : List Cos} {p q : Nat → Bool} (h : ∀ i < cs.length, p i = q i) : sel cs p = sel cs q := by
  unfold sel
  congr 1
  apply List.filter_congr
  intro a ha
  refine h a.2 ?_
  have := List.snd_lt_of_mem_zipIdx ha
  simpa using this
theorem rem_perm {cs : List Cos} {c : Cos} {m k : Nat} (hl : cs.length ≤ 3) (hm : m < 8) (hk : cs[k]? = some c) (hb : Nat.testBit m k = false) : (rem cs m).Perm (c :: rem cs (m + 2 ^ k)) := by
  have hkl : k < cs.length := (List.getElem?_eq_some_iff.mp hk).1
  have := sel_perm (p := fun i => !Nat.testBit m i) hk (by simp [hb])
  have e : rem cs (m + 2 ^ k) = sel cs fun i => (!Nat.testBit m i) && !decide (i = k) := sel_congr fun i hi => by
    rw [bit_set m hm k (by omega) hb i (by omega)]
    simp
  rw [e]
  exact this
theorem rem_zero {cs : List Cos} : rem cs 0 = cs := by
  unfold rem sel
  simp only [Nat.zero_testBit, Bool.not_false]
  rw [List.filter_eq_self.mpr fun _ _ => rfl]
  exact List.zipIdx_map_fst 0 cs
theorem sel_get {cs : List Cos} {p : Nat → Bool} {c : Cos} (h : c ∈ sel cs p) : ∃ k, cs[k]? = some c ∧ p k = true := by
  obtain ⟨q, hq, rfl⟩ := List.mem_map.mp h
  have := List.mem_filter.mp hq
  exact ⟨q.2, List.mem_zipIdx_iff_getElem?.mp this.1, this.2⟩
end X

set_option maxRecDepth 100000
namespace X
open DL PySem
section
variable {cs : List Cos} {c : Cos} {m k : Nat} {y F : Rat}
theorem rem_wf (h : ∀ c ∈ cs, Wf c) : ∀ c ∈ rem cs m, Wf c := fun c hc => h c (sel_mem c hc)
theorem rem_len : (rem cs m).length ≤ cs.length := sel_len
theorem opn_rem_le (h : ∀ c ∈ cs, Wf c) (hl : cs.length ≤ 3) (hm : m < 8) (hk : cs[k]? = some c) (hb : Nat.testBit m k = false) : opn (rem cs (m + 2 ^ k)) c y ≤ em ((rem cs m).map cap) y := by
  rw [em_perm ((rem_perm hl hm hk hb).map cap)]
  exact opn_le (rem_wf h) (h c (List.mem_of_getElem? hk))
theorem has_max {α : Type} (f : α → Rat) : ∀ {l : List α}, l ≠ [] → ∃ x ∈ l, ∀ z ∈ l, f z ≤ f x
  | [], h => absurd rfl h
  | [a], _ => ⟨a, List.mem_cons_self, fun z hz => by simp at hz; rw [hz]; exact Rat.le_refl⟩
  | a :: b :: l, _ => by
    obtain ⟨x, hx, hm⟩ := has_max f (l := b :: l) (by simp)
    by_cases h : f x < f a
    · exact ⟨a, List.mem_cons_self, fun z hz => by
        rcases List.mem_cons.mp hz with e | m
        · rw [e]; exact Rat.le_refl
        · exact Rat.le_trans (hm z m) (Rat.le_of_lt h)⟩
    · exact ⟨x, List.mem_cons_of_mem _ hx, fun z hz => by
        rcases List.mem_cons.mp hz with e | m
        · rw [e]; exact Rat.not_lt.mp h
        · exact hm z m⟩
theorem rem_top (h : ∀ c ∈ cs, Wf c) (hl : cs.length ≤ 3) (hm : m < 8) (h1 : y ≤ F) (h2 : F ≤ em ((rem cs m).map cap) y)
    (h3 : ∀ k c, cs[k]? = some c → Nat.testBit m k = false → opn (rem cs (m + 2 ^ k)) c y ≤ F) : F = em ((rem cs m).map cap) y := by
  by_cases hs : ∃ d ∈ rem cs m, y < reserve d.1 d.2
  · have hne : rem cs m ≠ [] := fun e => by
      obtain ⟨d, hd, _⟩ := hs
      rw [e] at hd; simp at hd
    obtain ⟨x, hx, hmax⟩ := has_max (fun d : Cos => reserve d.1 d.2) hne
    obtain ⟨k, hk, hb⟩ := sel_get hx
    have hb' : Nat.testBit m k = false := by simpa using hb
    have hp := rem_perm hl hm hk hb'
    have e := opn_eq (S := rem cs (m + 2 ^ k)) (c := x) (y := y) (rem_wf h) (h x (List.mem_of_getElem? hk)) (by
      obtain ⟨d, hd, hlt⟩ := hs
      exact Rat.le_trans (Rat.le_of_lt hlt) (hmax d hd)) fun d hd => hmax d (hp.mem_iff.mpr (List.mem_cons_of_mem _ hd))
    rw [em_perm (hp.map cap)] at h2 ⊢
    have := h3 k x hk hb'
    rw [e] at this
    exact Rat.le_antisymm h2 this
  · have e : em ((rem cs m).map cap) y = y := stop_eq (rem_wf h) fun d hd => Rat.not_lt.mp fun q => hs ⟨d, hd, q⟩
    rw [e] at h2 ⊢
    exact Rat.le_antisymm h2 h1
/-- the marks of the table -/
def marksOf (cs : List Cos) (y : Rat) : List Rat := (inOrder (y :: worths (cs.map (·.2)))).filter fun x => !decide (x < y)
theorem marks_mem {x : Rat} : x ∈ marksOf cs y ↔ (x = y ∨ ∃ c ∈ cs, ∃ r ∈ c.2, r.1 = x) ∧ y ≤ x := by
  unfold marksOf
  rw [List.mem_filter, (inOrder_props _).2.1, List.mem_cons]
  unfold worths
  simp only [List.mem_flatMap, List.mem_map, Bool.not_eq_true', decide_eq_false_iff_not, Rat.not_lt]
  constructor
  · rintro ⟨h | ⟨b, ⟨c, hc, rfl⟩, r, hr, rfl⟩, h2⟩
    · exact ⟨.inl h, h2⟩
    · exact ⟨.inr ⟨c, hc, r, hr, rfl⟩, h2⟩
  · rintro ⟨h | ⟨c, hc, r, hr, rfl⟩, h2⟩
    · exact ⟨.inl h, h2⟩
    · exact ⟨.inr ⟨c.2, ⟨c, hc, rfl⟩, r, hr, rfl⟩, h2⟩
theorem marks_self : y ∈ marksOf cs y := marks_mem.mpr ⟨.inl rfl, Rat.le_refl⟩
theorem marks_gt {x : Rat} {r : Row} (hx : x ∈ marksOf cs y) (hc : c ∈ cs) (hr : r ∈ c.2) : gt x r.1 ∈ marksOf cs y := by
  by_cases h : x < r.1
  · have e : gt x r.1 = r.1 := by unfold gt; rw [if_pos h]
    rw [e]
    exact marks_mem.mpr ⟨.inr ⟨c, hc, r, hr, rfl⟩, Rat.le_trans (marks_mem.mp hx).2 (Rat.le_of_lt h)⟩
  · have e : gt x r.1 = x := by unfold gt; rw [if_neg h]
    rw [e]; exact hx
theorem marks_L {n : Nat} (h : ∀ c ∈ cs, Wf c) (hy : L n y) (hn : 7 ≤ n) : ∀ x ∈ marksOf cs y, L n x := fun x hx => by
  rcases (marks_mem.mp hx).1 with e | ⟨c, hc, r, hr, rfl⟩
  · rw [e]; exact hy
  · exact ((h c hc).lb r hr).1.mono (by omega)
end
/-- a list of the store or a value -/
def Li (M : Mm) (d : D) (xs : List D) : Prop := d = .lst xs ∨ ∃ n, d = .ref n ∧ M[n]? = some (.lst xs)
theorem Li.sl {M : Mm} {d : D} {xs : List D} (h : Li M d xs) : Sl M d xs := by
  rcases h with rfl | ⟨n, rfl, hn⟩
  · exact Sl.lst
  · exact Sl.ref hn
theorem Li.ext {M : Mm} {d : D} {xs : List D} {o : MO} (h : Li M d xs) : Li (M ++ [o]) d xs := by
  rcases h with rfl | ⟨n, rfl, hn⟩
  · exact .inl rfl
  · exact .inr ⟨n, rfl, by rw [List.getElem?_append_left (List.getElem?_eq_some_iff.mp hn).1]; exact hn⟩
theorem key_inj {a a' : Int} {b b' : Rat} : (D.tup [.int a, fr b] = D.tup [.int a', fr b']) ↔ (a = a' ∧ b = b') := by
  constructor
  · intro e
    injection e with e
    injection e with e1 e2
    injection e1 with e1
    injection e2 with e2 _
    exact ⟨e1, fr_inj.mp e2⟩
  · rintro ⟨rfl, rfl⟩; rfl
theorem key_mk {a : Int} {b : Rat} : keyOk (.tup [.int a, fr b]) = true := rfl
end X

set_option maxRecDepth 100000
namespace X
open DL PySem
/-- one turn of the table: the boxes still shut -/
theorem k_loop {f n m : Nat} {M : Mm} {d : D} {cs : List Cos} {y : Rat} {kv : List (D × D)} (hd : Li M d (cs.map cosD)) (h : ∀ c ∈ cs, Wf c) (hl : cs.length ≤ 3) (hm : m < 8) (hf : 4 ≤ f) (hy : L n y) (hn : n ≤ 65) (hn7 : 7 ≤ n)
    (ht : ∀ k c, cs[k]? = some c → Nat.testBit m k = false → ∀ r ∈ c.2, findD kv (.tup [.int ((m + 2 ^ k : Nat) : Int), fr (gt y r.1)]) = some (fr (em ((rem cs (m + 2 ^ k)).map cap) (gt y r.1))))
    (x1 x2 x3 x4 x10 x11 x12 : Option D) :
    ∀ (ks : List Nat) (F : Rat) (x9 : Option D), (∀ k ∈ ks, k < cs.length) → L (15 + n) F → y ≤ F → F ≤ em ((rem cs m).map cap) y →
      ∃ F' x9', forGo (exS (callN defs f) (.seq (.ite (.not (.op .band false (.op .shr false (.var 6) (.var 9)) (.con (.int 1)))) (.seq (.set (.nm 8) (.call 54 (.cons (.var 8) (.cons (.call 60 (.cons (.var 0) (.cons (.var 5) (.cons (.var 6) (.cons (.var 7) (.cons (.var 9) .nil)))))) .nil)))) .nil) .nil) .nil)) (.nm 9) [] (ks.map fun i : Nat => D.int ((i : Nat) : Int))
          [some d, x1, x2, x3, x4, some (.ref M.length), some (.int (m : Nat)), some (fr y), some (fr F), x9, x10, x11, x12] (M ++ [.dic kv])
        = some (.nx, [some d, x1, x2, x3, x4, some (.ref M.length), some (.int (m : Nat)), some (fr y), some (fr F'), x9', x10, x11, x12], M ++ [.dic kv])
        ∧ L (15 + n) F' ∧ F ≤ F' ∧ F' ≤ em ((rem cs m).map cap) y ∧ ∀ k ∈ ks, ∀ c, cs[k]? = some c → Nat.testBit m k = false → opn (rem cs (m + 2 ^ k)) c y ≤ F' := by
  intro ks
  induction ks with
  | nil => intro F x9 _ hF _ hV; exact ⟨F, x9, rfl, hF, Rat.le_refl, hV, fun k hk => by simp at hk⟩
  | cons k ks ih =>
    intro F x9 hks hF hyF hV
    have hk : k < cs.length := hks k List.mem_cons_self
    have hkc : cs[k]? = some cs[k] := List.getElem?_eq_getElem hk
    have hc : Wf cs[k] := h _ (List.getElem_mem hk)
    cases hb : Nat.testBit m k with
    | true =>
      obtain ⟨F', x9', e, e1, e2, e3, e4⟩ := ih F (some (.int (k : Nat))) (fun j hj => hks j (List.mem_cons_of_mem _ hj)) hF hyF hV
      refine ⟨F', x9', ?_, e1, e2, e3, fun j hj c hjc hbj => ?_⟩
      · rw [List.map_cons, for_cons, ← e]
        simp only [asg_nm, Option.bind_some, kTurn_ap, ex_seq, ex_ite, et_not, et_op, ev_op, ev_var, lk_zero, lk_succ, List.set, kOp1_ap, kOp2_ap, so_shr, iff', ev_con]
        rw [if_pos (by simp)]
        simp only [Option.bind_some, kOp1_ap, ev_con, kOp2_ap, so_band, bit_test m hm k (by omega), hb, if_true, kTr_ap, tr_int]
        simp
      · rcases List.mem_cons.mp hj with q | q
        · subst q; rw [hb] at hbj; exact absurd hbj (by decide)
        · exact e4 j q c hjc hbj
    | false =>
      have hS := rem_wf (m := m + 2 ^ k) h
      have hle := opn_rem_le (y := y) h hl hm hkc hb
      have hO : L (15 + n) (opn (rem cs (m + 2 ^ k)) cs[k] y) := by
        have hLe : ∀ r ∈ cs[k].2, L (12 + n) (em ((rem cs (m + 2 ^ k)).map cap) (gt y r.1)) := fun r hr =>
          (em_L hS (hy.gt ((hc.lb r hr).1.mono (by omega))) hn7).mono (by have := rem_len (cs := cs) (m := m + 2 ^ k); omega)
        have := ex_L (b := cs[k].2) (f := fun x => em ((rem cs (m + 2 ^ k)).map cap) (gt y x)) (k := 1) (k' := 12 + n) (fun r hr => (hc.lb r hr).2) hLe (by have := hc.len; omega)
        exact ((this.mono (k' := 14 + n) (by omega)).sub (hc.lc.mono (by omega))).mono (by omega)
      have hopen := (m_lopen (cs := cs) (M := M ++ [.dic kv]) (vd := .ref M.length) (S := rem cs (m + 2 ^ k)) (k := k) (mask := (m : Int)) (sh := ((2 ^ k : Nat) : Int)) (by
          rw [hd.ext.sl.ix]
          exact at_nat (by rw [List.getElem?_map, hkc]; rfl)) hc hS (by have := rem_len (cs := cs) (m := m + 2 ^ k); omega) hy hn hn7 (bit_shl k (by omega)) (bit_or m hm k (by omega) hb) (fun r hr => by
          rw [ix_dic key_mk]
          exact ht k _ hkc hb r hr)).at hf
      obtain ⟨F', x9', e, e1, e2, e3, e4⟩ := ih (gt F (opn (rem cs (m + 2 ^ k)) cs[k] y)) (some (.int (k : Nat))) (fun j hj => hks j (List.mem_cons_of_mem _ hj)) (hF.gt hO) (Rat.le_trans hyF (le_gt _ _)) (gt_le hV hle)
      refine ⟨F', x9', ?_, e1, Rat.le_trans (le_gt _ _) e2, e3, fun j hj c hjc hbj => ?_⟩
      · rw [List.map_cons, for_cons, ← e]
        simp only [asg_nm, Option.bind_some, kTurn_ap, ex_seq, ex_ite, et_not, et_op, ev_op, ev_var, lk_zero, lk_succ, List.set, kOp1_ap, kOp2_ap, so_shr, iff', ev_con]
        rw [if_pos (by simp)]
        simp only [Option.bind_some, kOp1_ap, ev_con, kOp2_ap, so_band, bit_test m hm k (by omega), hb, kTr_ap, tr_int]
        simp only [Bool.false_eq_true, if_false, show ((0 : Int) != 0) = false from rfl, Option.map_some, Option.bind_some, kNotT_ap, Bool.not_false, kIf_t, ex_seq, ex_set, ev_call, es_cons, es_nil, ev_var, lk_zero, lk_succ, kCs1_ap, kCs2_ap, kCall_ap]
        rw [show (60 : Nat) = i__law_open from rfl, hopen]
        simp only [Option.bind_some, kCs1_ap, kCs2_ap, es_nil, kCall_ap]
        rw [(pu_lgreater (hF.ok (by omega)) (hO.ok (by omega))).at _ (by omega)]
        simp
      · rcases List.mem_cons.mp hj with q | q
        · subst q
          have : c = cs[j] := by rw [hkc] at hjc; injection hjc with hjc; exact hjc.symm
          rw [this]
          exact Rat.le_trans (le_gt2 _ _) e2
        · exact e4 j q c hjc hbj
end X

set_option maxRecDepth 100000
namespace X
open DL PySem
/-- what the table holds -/
def Tab (cs : List Cos) (y : Rat) (kv : List (D × D)) (p : Nat → Rat → Prop) : Prop := ∀ m x, m < 2 ^ cs.length → x ∈ marksOf cs y → p m x → findD kv (.tup [.int (m : Nat), fr x]) = some (fr (em ((rem cs m).map cap) x))
theorem pow_le8 {l : Nat} (h : l ≤ 3) : 2 ^ l ≤ 8 := Nat.pow_le_pow_right (n := 2) (by decide) h
theorem ev_rangeJ {call : CallF} {d : D} {env : En} {M : Mm} {j : Int} (hj : in62 j = true) (h : semB .len false [d] M = some (.int j, M)) : evIt call (.irange1 (.blt .len false (.cons (.var 0) .nil))) (some d :: env) M = some (⟨[], rangeD 0 j.toNat⟩, M) := by
  simp only [ei_r1, ev_blt, es_cons, es_nil, ev_var, lk_zero, Option.bind_some, kCs1_ap, kCs2_ap, kBlt_ap, h, kR1_ap]
  rw [if_pos hj]
/-- the table's row for one mask -/
theorem b_loop {f n m : Nat} {M : Mm} {d : D} {cs : List Cos} {y : Rat} (hd : Li M d (cs.map cosD)) (h : ∀ c ∈ cs, Wf c) (hl : cs.length ≤ 3) (hm : m < 2 ^ cs.length) (hf : 4 ≤ f) (hy : L n y) (hn : n ≤ 65) (hn7 : 7 ≤ n)
    (x1 x2 x3 x4 x10 x11 x12 : Option D) :
    ∀ (todo : List Rat) (p : Rat → Prop) (kv : List (D × D)) (x7 x8 x9 : Option D), (∀ x ∈ todo, x ∈ marksOf cs y) → Tab cs y kv (fun m' x => m < m' ∨ (m' = m ∧ p x)) → kv.length + todo.length ≤ 1000 →
      ∃ kv' x7' x8' x9', forGo (exS (callN defs f) (.seq (.set (.nm 8) (.var 7)) (.seq (.for_ (.nm 9) (.irange1 (.blt .len false (.cons (.var 0) .nil))) (.seq (.ite (.not (.op .band false (.op .shr false (.var 6) (.var 9)) (.con (.int 1)))) (.seq (.set (.nm 8) (.call 54 (.cons (.var 8) (.cons (.call 60 (.cons (.var 0) (.cons (.var 5) (.cons (.var 6) (.cons (.var 7) (.cons (.var 9) .nil)))))) .nil)))) .nil) .nil) .nil)) (.seq (.put (.var 5) (.tup (.cons (.var 6) (.cons (.var 7) .nil))) (.var 8)) .nil)))) (.nm 7) [] (todo.map fr)
          [some d, x1, x2, x3, x4, some (.ref M.length), some (.int (m : Nat)), x7, x8, x9, x10, x11, x12] (M ++ [.dic kv])
        = some (.nx, [some d, x1, x2, x3, x4, some (.ref M.length), some (.int (m : Nat)), x7', x8', x9', x10, x11, x12], M ++ [.dic kv'])
        ∧ kv'.length ≤ kv.length + todo.length ∧ Tab cs y kv' (fun m' x => m < m' ∨ (m' = m ∧ (p x ∨ x ∈ todo))) := by
  intro todo
  induction todo with
  | nil => intro p kv x7 x8 x9 _ ht _; exact ⟨kv, x7, x8, x9, by rw [List.map_nil, for_nil], by simp, fun m' x h1 h2 h3 => ht m' x h1 h2 (by simpa using h3)⟩
  | cons x todo ih =>
    intro p kv x7 x8 x9 hx ht hlen
    rw [List.length_cons] at hlen
    have hm8 : m < 8 := Nat.lt_of_lt_of_le hm (pow_le8 hl)
    have hxm := hx x List.mem_cons_self
    have hLx := marks_L h hy hn7 x hxm
    obtain ⟨F, x9', e, e1, e2, e3, e4⟩ := k_loop (m := m) (y := x) (kv := kv) hd h hl hm8 hf hLx hn hn7 (fun k c hk hb r hr => by
      have hkl := (List.getElem?_eq_some_iff.mp hk).1
      have hp : 0 < 2 ^ k := Nat.two_pow_pos k
      exact ht (m + 2 ^ k) _ (bit_up _ (by omega) m hm k hkl hb) (marks_gt hxm (List.mem_of_getElem? hk) hr) (.inl (by omega))) x1 x2 x3 x4 x10 x11 x12 (List.range cs.length) x x9 (fun k hk => List.mem_range.mp hk) (hLx.mono (by omega)) Rat.le_refl (em_ge (caps_bx (rem_wf h)))
    have hF : F = em ((rem cs m).map cap) x := rem_top h hl hm8 e2 e3 fun k c hk hb => e4 k (List.mem_range.mpr (List.getElem?_eq_some_iff.mp hk).1) c hk hb
    have hput : Tab cs y (putD kv (.tup [.int (m : Nat), fr x]) (fr F)) (fun m' z => m < m' ∨ (m' = m ∧ (p z ∨ z = x))) := fun m' z h1 h2 h3 => by
      rw [find_put]
      by_cases q : D.tup [.int (m : Nat), fr x] = D.tup [.int (m' : Nat), fr z]
      · rw [if_pos q]
        obtain ⟨q1, q2⟩ := key_inj.mp q
        have q1' : m = m' := by omega
        subst q1' q2
        rw [hF]
      · rw [if_neg q]
        refine ht m' z h1 h2 ?_
        rcases h3 with h3 | ⟨h3, h4 | h4⟩
        · exact .inl h3
        · exact .inr ⟨h3, h4⟩
        · exact absurd (by rw [h3, h4]) q
    obtain ⟨kv', x7', x8', x9'', f1, f2, f3⟩ := ih (fun z => p z ∨ z = x) (putD kv (.tup [.int (m : Nat), fr x]) (fr F)) (some (fr x)) (some (fr F)) x9' (fun z hz => hx z (List.mem_cons_of_mem _ hz)) hput (by have := put_len (kvs := kv) (k := .tup [.int (m : Nat), fr x]) (v := fr F); omega)
    refine ⟨kv', x7', x8', x9'', ?_, by have := put_len (kvs := kv) (k := .tup [.int (m : Nat), fr x]) (v := fr F); rw [List.length_cons]; omega, fun m' z h1 h2 h3 => f3 m' z h1 h2 ?_⟩
    · rw [List.map_cons, for_cons, ← f1]
      have hlen2 := hd.ext (o := .dic kv) |>.sl.len (m := false) (by rw [List.length_map]; exact lim64 (by omega))
      rw [List.length_map] at hlen2
      simp only [asg_nm, Option.bind_some, kTurn_ap, List.set, ex_seq, ex_set, ev_var, lk_zero, lk_succ, kSet_ap, Option.map_some, kSq_nx]
      rw [ex_for, ev_rangeJ (in62_small (by omega) (by omega)) hlen2, range_map, Int.toNat_natCast]
      simp only [Option.bind_some, kFor_ap]
      rw [e]
      simp only [Option.bind_some, kSq_nx, ex_seq, ex_put, ev_var, lk_zero, lk_succ, kPut1_ap, kPut2_ap, ev_tup, es_cons, es_nil, kCs1_ap, kCs2_ap, kTup_ap, List.length_cons, List.length_nil, Nat.zero_add, Nat.reduceAdd, lim2, if_true, kPut3_ap]
      rw [put_dic key_mk (by unfold lim; omega)]
      simp
    · rcases h3 with h3 | ⟨h3, h4 | h4⟩
      · exact .inl h3
      · exact .inr ⟨h3, .inl (.inl h4)⟩
      · rcases List.mem_cons.mp h4 with q | q
        · exact .inr ⟨h3, .inl (.inr q)⟩
        · exact .inr ⟨h3, .inr q⟩
end X

set_option maxRecDepth 100000
namespace X
open DL PySem
theorem add_lst {M : Mm} {u v : List D} (h : u.length + v.length ≤ lim) : semO false M .add (.lst u) (.lst v) = some (.lst (u ++ v), M) := by
  simp only [semO, lo_lst, Option.bind_eq_bind, Option.bind_some]
  exact new_f (by rw [List.length_append]; exact h)
/-- the loop that collects the marks -/
theorem mk_loop {f : Nat} {M : Mm} {src : List (Nat × List D)} (hs : chks src M = true) (x0 x1 x5 x6 x7 x8 x9 x10 x11 x12 : Option D) :
    ∀ (todo : List Cos) (acc : List Rat) (x3 x4 : Option D), acc.length + 3 * todo.length ≤ 100 → (∀ c ∈ todo, c.2.length ≤ 3) →
      ∃ x3' x4', forGo (exS (callN defs f) (.seq (.set (.nm 2) (.op .add false (.var 2) (.comp false (.cons (.nm 11) (.cons (.nm 12) .nil)) [11, 12] (.iseq (.var 4)) .yes (.var 11)))) .nil)) (.cons (.nm 3) (.cons (.nm 4) .nil)) src (todo.map cosD)
          [x0, x1, some (.lst (acc.map fr)), x3, x4, x5, x6, x7, x8, x9, x10, x11, x12] M
        = some (.nx, [x0, x1, some (.lst ((acc ++ worths (todo.map (·.2))).map fr)), x3', x4', x5, x6, x7, x8, x9, x10, x11, x12], M) := by
  intro todo
  induction todo with
  | nil => intro acc x3 x4 _ _; exact ⟨x3, x4, by rw [List.map_nil, for_nilS hs]; simp [worths]⟩
  | cons c todo ih =>
    intro acc x3 x4 hlen hl
    rw [List.length_cons] at hlen
    have hc := hl c List.mem_cons_self
    obtain ⟨x3', x4', e⟩ := ih (acc ++ c.2.map (·.1)) (some (fr c.1)) (some (boxD c.2)) (by rw [List.length_append, List.length_map]; omega) fun d m => hl d (List.mem_cons_of_mem _ m)
    refine ⟨x3', x4', ?_⟩
    have ew : acc ++ worths ((c :: todo).map (·.2)) = acc ++ c.2.map (·.1) ++ worths (todo.map (·.2)) := by simp [worths]
    rw [List.map_cons, for_consS hs, ew, ← e]
    rw [show asg (.cons (.nm 3) (.cons (.nm 4) .nil)) (cosD c) [x0, x1, some (.lst (acc.map fr)), x3, x4, x5, x6, x7, x8, x9, x10, x11, x12] = some [x0, x1, some (.lst (acc.map fr)), some (fr c.1), some (boxD c.2), x5, x6, x7, x8, x9, x10, x11, x12] from rfl]
    simp only [Option.bind_some, kTurn_ap, ex_seq, ex_set, ev_op, ev_var, lk_zero, lk_succ, kOp1_ap, ev_comp, ei_seq, kSeq_ap]
    rw [show itOf M (boxD c.2) = some ⟨[], c.2.map rowD⟩ from rfl]
    simp only [Option.map_some, Option.bind_some, kCo_ap]
    rw [comp_yes rowD (fun r => fr r.1) c.2 rfl ?_]
    rotate_left
    · intro r hr
      simp [rowD, wipeD]
    have hl1 : (c.2.map fun r => fr r.1).length ≤ lim := by rw [List.length_map]; exact lim64 (by omega)
    have hl2 : (acc.map fr).length + (c.2.map fun r => fr r.1).length ≤ lim := by rw [List.length_map, List.length_map]; exact lim_big (by omega)
    simp only [Option.bind_some, kNew_ap, new_f hl1, kOp2_ap, add_lst hl2, kSet_ap, asg_nm, List.set, Option.map_some, kSq_nx, DL.ex_nil, kLoop_nx]
    rw [show (acc.map fr ++ c.2.map fun r => fr r.1) = (acc ++ c.2.map (·.1)).map fr by rw [List.map_append, List.map_map]; rfl]
theorem worths_cs {cs : List Cos} (h : ∀ c ∈ cs, Wf c) : (worths (cs.map (·.2))).length ≤ 3 * cs.length := by
  induction cs with
  | nil => simp [worths]
  | cons c cs ih =>
    have h1 := ih fun d m => h d (List.mem_cons_of_mem _ m)
    have h2 := (h c List.mem_cons_self).len
    unfold worths at h1 ⊢
    rw [List.map_cons, List.flatMap_cons, List.length_append, List.length_map, List.length_cons]
    omega
theorem marks_len {cs : List Cos} {y : Rat} (h : ∀ c ∈ cs, Wf c) (hl : cs.length ≤ 3) : (marksOf cs y).length ≤ 10 := by
  unfold marksOf
  refine Nat.le_trans (List.length_filter_le _ _) (Nat.le_trans (inOrder_props _).2.2 ?_)
  have := worths_cs h
  rw [List.length_cons]; omega
/-- the loop over the masks -/
theorem m_loop {f n : Nat} {M : Mm} {d : D} {cs : List Cos} {y : Rat} (hd : Li M d (cs.map cosD)) (h : ∀ c ∈ cs, Wf c) (hl : cs.length ≤ 3) (hf : 4 ≤ f) (hy : L n y) (hn : n ≤ 65) (hn7 : 7 ≤ n)
    (x1 x3 x4 x10 x11 x12 : Option D) :
    ∀ (t : Nat) (kv : List (D × D)) (x6 x7 x8 x9 : Option D), t ≤ 2 ^ cs.length → Tab cs y kv (fun m' _ => t ≤ m') → kv.length + 10 * t ≤ 1000 →
      ∃ kv' x6' x7' x8' x9', forGo (exS (callN defs f) (.seq (.for_ (.nm 7) (.iseq (.var 2)) (.seq (.set (.nm 8) (.var 7)) (.seq (.for_ (.nm 9) (.irange1 (.blt .len false (.cons (.var 0) .nil))) (.seq (.ite (.not (.op .band false (.op .shr false (.var 6) (.var 9)) (.con (.int 1)))) (.seq (.set (.nm 8) (.call 54 (.cons (.var 8) (.cons (.call 60 (.cons (.var 0) (.cons (.var 5) (.cons (.var 6) (.cons (.var 7) (.cons (.var 9) .nil)))))) .nil)))) .nil) .nil) .nil)) (.seq (.put (.var 5) (.tup (.cons (.var 6) (.cons (.var 7) .nil))) (.var 8)) .nil)))) .nil)) (.nm 6) [] ((List.range t).reverse.map fun i => D.int (i : Nat))
          [some d, x1, some (.lst ((marksOf cs y).map fr)), x3, x4, some (.ref M.length), x6, x7, x8, x9, x10, x11, x12] (M ++ [.dic kv])
        = some (.nx, [some d, x1, some (.lst ((marksOf cs y).map fr)), x3, x4, some (.ref M.length), x6', x7', x8', x9', x10, x11, x12], M ++ [.dic kv'])
        ∧ Tab cs y kv' (fun _ _ => True) := by
  intro t
  induction t with
  | zero =>
    intro kv x6 x7 x8 x9 _ ht _
    exact ⟨kv, x6, x7, x8, x9, by rw [List.range_zero, List.reverse_nil, List.map_nil, for_nil], fun m x h1 h2 _ => ht m x h1 h2 (Nat.zero_le _)⟩
  | succ t ih =>
    intro kv x6 x7 x8 x9 ht2 ht hlen
    have hml := marks_len (y := y) h hl
    obtain ⟨kv1, y7, y8, y9, e, e1, e2⟩ := b_loop (m := t) hd h hl (by omega) hf hy hn hn7 x1 (some (.lst ((marksOf cs y).map fr))) x3 x4 x10 x11 x12 (marksOf cs y) (fun _ => False) kv x7 x8 x9 (fun x hx => hx) (fun m' x h1 h2 h3 => ht m' x h1 h2 (by rcases h3 with q | ⟨_, q⟩; exact q; exact q.elim)) (by omega)
    obtain ⟨kv', z6, z7, z8, z9, f1, f2⟩ := ih kv1 (some (.int (t : Nat))) y7 y8 y9 (by omega) (fun m' x h1 h2 h3 => e2 m' x h1 h2 (by
      rcases Nat.lt_or_eq_of_le h3 with q | q
      · exact .inl q
      · exact .inr ⟨q.symm, .inr h2⟩)) (by omega)
    refine ⟨kv', z6, z7, z8, z9, ?_, f2⟩
    have er : (List.range (t + 1)).reverse.map (fun i => D.int (i : Nat)) = D.int (t : Nat) :: (List.range t).reverse.map fun i => D.int (i : Nat) := by
      rw [List.range_succ]; simp
    rw [er, for_cons, ← f1]
    simp only [asg_nm, Option.bind_some, kTurn_ap, List.set, ex_seq]
    rw [ex_for]
    simp only [ei_seq, ev_var, lk_zero, lk_succ, Option.bind_some, kSeq_ap, it_lst, Option.map_some, kFor_ap]
    rw [e]
    simp only [Option.bind_some, kSq_nx, DL.ex_nil, kLoop_nx]
theorem ev_range3 {call : CallF} {d : D} {env : En} {M : Mm} {l : Nat} (hl : l ≤ 3) (h : semB .len false [d] M = some (.int (l : Nat), M)) : evIt call (.irange3 (.op .sub false (.op .shl false (.con (.int 1)) (.blt .len false (.cons (.var 0) .nil))) (.con (.int 1))) (.neg (.con (.int 1))) (.neg (.con (.int 1)))) (some d :: env) M = some (⟨[], (List.range (2 ^ l)).reverse.map fun i => D.int (i : Nat)⟩, M) := by
  have hs : semO false M .shl (.int 1) (.int (l : Nat)) = some (.int ((2 ^ l : Nat) : Int), M) := by
    match l, hl with
    | 0, _ => rfl
    | 1, _ => rfl
    | 2, _ => rfl
    | 3, _ => rfl
  have hp : (2 ^ l : Nat) ≤ 8 := pow_le8 hl
  have hp1 : 1 ≤ (2 ^ l : Nat) := Nat.one_le_two_pow
  generalize (2 ^ l : Nat) = j at hs hp hp1
  simp only [ei_r3, ev_op, ev_con, Option.bind_some, kOp1_ap, ev_blt, es_cons, es_nil, ev_var, lk_zero, kCs1_ap, kCs2_ap, kBlt_ap, h, kOp2_ap, hs, so_sub, kR3a_ap, ev_neg, kNeg_ap, kR3b_ap, kR3c_ap]
  rw [if_pos (by rw [in62_small (by omega) (by omega)]; rfl), show ((j : Int) - 1 - -1).toNat = j by omega, rangeC_down]
theorem m_lopened {n : Nat} {M : Mm} {d : D} {cs : List Cos} {y : Rat} (hd : Li M d (cs.map cosD)) (h : ∀ c ∈ cs, Wf c) (hl : cs.length ≤ 3) (hy : L n y) (hn : n ≤ 65) (hn7 : 7 ≤ n) :
    ∀ k, 5 ≤ k → ∃ kv, callN defs k i__law_opened [d, fr y] M = some (.ref M.length, M ++ [.dic kv]) ∧ Tab cs y kv (fun _ _ => True) := by
  intro k hk
  obtain ⟨f, rfl⟩ : ∃ j, k = j + 1 := ⟨k - 1, by omega⟩
  obtain ⟨src, hit, hchk⟩ := hd.sl.it
  obtain ⟨x3, x4, e1⟩ := mk_loop (f := f) hchk (some d) (some (fr y)) none none none none none none none none cs [y] none none (by simp; omega) (fun c m => (h c m).len)
  have hwl : ∀ x ∈ y :: worths (cs.map (·.2)), L n x := fun x m => by
    rcases List.mem_cons.mp m with q | q
    · rw [q]; exact hy
    · obtain ⟨b, hb, hx⟩ := List.mem_flatMap.mp q
      obtain ⟨c, hc, rfl⟩ := List.mem_map.mp hb
      obtain ⟨r, hr, rfl⟩ := List.mem_map.mp hx
      exact ((h c hc).lb r hr).1.mono (by omega)
  have hwn : (y :: worths (cs.map (·.2))).length ≤ 10 := by
    have := worths_cs h
    rw [List.length_cons]; omega
  have hio : ∀ x ∈ inOrder (y :: worths (cs.map (·.2))), L n x := fun x m => hwl x (((inOrder_props _).2.1 x).mp m)
  have hiol : (inOrder (y :: worths (cs.map (·.2)))).length ≤ 10 := Nat.le_trans (inOrder_props _).2.2 hwn
  have hlen := (hd.ext (o := .dic [])).sl.len (m := false) (by rw [List.length_map]; exact lim64 (by omega))
  rw [List.length_map] at hlen
  obtain ⟨kv, z6, z7, z8, z9, f1, f2⟩ := m_loop hd h hl (f := f) (by omega) hy hn hn7 (some (fr y)) x3 x4 none none none (2 ^ cs.length) [] none none none none (Nat.le_refl _) (fun m' x h1 _ h3 => absurd h3 (by omega)) (by have := pow_le8 hl; simp; omega)
  refine ⟨kv, ?_, f2⟩
  have e : ∃ env', exS (callN defs f) b__law_opened [some d, some (fr y), none, none, none, none, none, none, none, none, none, none, none] M = some (.rt (.ref M.length), env', M ++ [.dic kv]) := by
    simp only [b__law_opened, ex_seq, ex_set, ev_lis, es_cons, es_nil, ev_var, lk_zero, lk_succ, Option.bind_some, kCs1_ap, kCs2_ap, kLis_ap, new_f (show [fr y].length ≤ lim from lim1), kSet_ap, asg_nm, List.set, Option.map_some, kSq_nx, ex_for, ei_seq, kSeq_ap, hit, kFor_ap]
    have e1' := e1
    simp only [List.map_cons, List.map_nil] at e1'
    rw [e1']
    rw [show ([y] ++ worths (cs.map (·.2))) = y :: worths (cs.map (·.2)) from rfl]
    simp only [Option.bind_some, kSq_nx, ex_seq, ex_par, es_cons, ev_comp, ei_seq, ev_call, es_nil, ev_var, lk_zero, lk_succ, kCs1_ap, kCs2_ap, kCall_ap]
    rw [(pu_lin_order hwl (by omega) (by omega)).at M (k := f) (by omega)]
    simp only [Option.bind_some, kSeq_ap, it_lst, Option.map_some, kCo_ap]
    rw [comp_if fr fr (fun x => !decide (x < y)) (inOrder (y :: worths (cs.map (·.2)))) rfl ?_ ?_]
    rotate_left
    · intro r hr
      simp [wipeD]
      rw [(pu_lless ((hio r hr).ok (by omega)) (hy.ok (by omega))).at _ (by omega)]
      simp
    · intro r hr _
      simp [wipeD]
    have em : ((inOrder (y :: worths (cs.map (·.2)))).filter fun x => !decide (x < y)) = marksOf cs y := rfl
    have hml := marks_len (y := y) h hl
    rw [em]
    simp only [Option.bind_some, kNew_ap, new_f (show ((marksOf cs y).map fr).length ≤ lim by rw [List.length_map]; exact lim64 (by omega)), kCs1_ap, es_cons, ev_dict0, es_nil, kCs2_ap, kPar_ap, sets_cons, sets_nil, List.set, kSq_nx, ex_seq]
    rw [ex_for, ev_range3 hl hlen]
    simp only [Option.bind_some, kFor_ap]
    rw [f1]
    simp only [Option.bind_some, kSq_nx, ex_seq, ex_ret, ev_var, lk_zero, lk_succ, kRet_ap, kSq_rt]
    exact ⟨_, rfl⟩
  obtain ⟨env', e⟩ := e
  show (match exS (callN defs f) b__law_opened [some d, some (fr y), none, none, none, none, none, none, none, none, none, none, none] M with | some (.rt d, _, M') => retOf false M d M' | some (.nx, _, M') => retOf false M .non M' | _ => none) = _
  rw [e]
  simp [retOf]
end X

set_option maxRecDepth 100000
namespace X
open DL PySem
/-! ### the law's comparing -/
theorem eqD_bl {M : Mm} {a b : Bool} : eqD M (.bl a) (.bl b) = some (decide (a = b)) := by cases a <;> cases b <;> rfl
@[simp] theorem sc_eqb {M : Mm} {a b : Bool} : semC M .eq (.bl a) (.bl b) = some (decide (a = b)) := eqD_bl
@[simp] theorem sc_neb {M : Mm} {a b : Bool} : semC M .ne (.bl a) (.bl b) = some (!decide (a = b)) := by simp [semC, eqD_bl]
theorem eq_nil {M : Mm} : semC M .eq (.lst []) (.lst []) = some true := rfl
def Vw : Nat → Mm → D → D → Prop
  | 0, _, t, d => (∃ b, t = .bl b ∧ d = .bl b) ∨ ∃ i, t = .int i ∧ d = .int i
  | n + 1, M, t, d => ((∃ b, t = .bl b ∧ d = .bl b) ∨ ∃ i, t = .int i ∧ d = .int i) ∨ ∃ ts ds : List D, ((t = .tup ts ∧ d = .tup ds) ∨ ((t = .lst ts ∨ ∃ r, t = .ref r ∧ M[r]? = some (.lst ts)) ∧ d = .lst ds)) ∧ ts.length = ds.length ∧ ds.length ≤ 64 ∧ ∀ (i : Nat) (a b : D), ts[i]? = some a → ds[i]? = some b → Vw n M a b
theorem same0 {M : Mm} {t d : D} (h : (∃ b, t = .bl b ∧ d = .bl b) ∨ ∃ i, t = .int i ∧ d = .int i) : PuM defs 1 i__law_same [t, d] M (.bl true) := by
  refine PuM.mk (df := ⟨2, 3, true, b__law_same⟩) rfl ⟨rfl, by decide⟩ fun k hk => ?_
  rcases h with ⟨b, rfl, rfl⟩ | ⟨i, rfl, rfl⟩
  · simp [b__law_same, semC, isD, eqD_bl]
  · have e1 : semC M .is (.int i) .non = some false := by simp [semC, isD]
    simp [b__law_same, e1]
theorem ev_rangeV {call : CallF} {env : En} {M : Mm} {v : Nat} {d : D} {j : Int} (hv : lk env v M = some (d, M)) (hj : in62 j = true) (h : semB .len false [d] M = some (.int j, M)) :
    evIt call (.irange1 (.blt .len false (.cons (.var v) .nil))) env M = some (⟨[], rangeD 0 j.toNat⟩, M) := by
  simp only [ei_r1, ev_blt, es_cons, es_nil, ev_var, hv, Option.bind_some, kCs1_ap, kCs2_ap, kBlt_ap, h, kR1_ap]
  rw [if_pos hj]
theorem len_range {call : CallF} {env : En} {M : Mm} {v l : Nat} {d : D} (hv : lk env v M = some (d, M)) (hl : l ≤ 1000) (h : semB .len false [d] M = some (.int (l : Nat), M)) :
    evIt call (.irange1 (.blt .len false (.cons (.var v) .nil))) env M = some (⟨[], (List.range l).map fun i : Nat => D.int (i : Nat)⟩, M) := by
  rw [ev_rangeV hv (in62_small (by omega) (by omega)) h, range_map, Int.toNat_natCast]
theorem same_seq {M : Mm} {t d : D} {ts ds : List D} {n : Nat} {bl bt : Bool} (h1 : Sq M t ts) (h2 : Sq M d ds) (hd : d ≠ .non) (i1 : semIsi M d [.bool] = some false) (i2 : semIsi M d [.int] = some false) (i3 : semIsi M d [.str] = some false)
    (l1 : semIsi M d [.list] = some bl) (l2 : semIsi M t [.list] = some bl) (t1 : semIsi M d [.tuple] = some bt) (t2 : semIsi M t [.tuple] = some bt)
    (hl : ts.length = ds.length) (hn : ds.length ≤ 64) (hs : ∀ (i : Nat) (a b : D), ts[i]? = some a → ds[i]? = some b → PuM defs (n + 1) i__law_same [a, b] M (.bl true)) : PuM defs (n + 2) i__law_same [t, d] M (.bl true) := by
  refine PuM.mk (df := ⟨2, 3, true, b__law_same⟩) rfl ⟨rfl, by decide⟩ fun k hk => ?_
  have e1 : semC M .is d .non = some false := by simp [semC, isD, hd]
  have hlen1 := h1.len (m := false) (lim64 (by omega))
  have hlen2 := h2.len (m := false) (lim64 hn)
  rw [hl] at hlen1
  have hit : evIt (callN defs k) (.irange1 (.blt .len false (.cons (.var 1) .nil))) [some t, some d, none] M = some (⟨[], (List.range ds.length).map fun i : Nat => D.int (i : Nat)⟩, M) := len_range rfl (by omega) hlen2
  have hco : evE (callN defs k) (.comp false (.nm 2) [2] (.irange1 (.blt .len false (.cons (.var 1) .nil))) (.not (.call 45 (.cons (.idx (.var 0) (.var 2)) (.cons (.idx (.var 1) (.var 2)) .nil)))) (.var 2)) [some t, some d, none] M = some (.lst [], M) := by
    rw [ev_comp, hit]
    simp only [Option.bind_some, kCo_ap]
    rw [comp_if (fun i : Nat => D.int i) (fun i : Nat => D.int i) (fun _ => false) (List.range ds.length) rfl ?_ (fun _ _ h => nomatch h)]
    rotate_left
    · intro i hi
      have hi' := List.mem_range.mp hi
      have g1 : semIx M t (.int (i : Int)) = some (ts[i]'(by omega)) := by rw [h1.ix]; exact at_nat (List.getElem?_eq_getElem (by omega))
      have g2 : semIx M d (.int (i : Int)) = some (ds[i]'hi') := by rw [h2.ix]; exact at_nat (List.getElem?_eq_getElem hi')
      simp only [wipeD, List.set, asg_nm, Option.bind_some, et_not, et_call, ev_call, es_cons, es_nil, ev_idx, ev_var, lk_zero, lk_succ, kIx1_ap, kIx2_ap, g1, g2, Option.map_some, kCs1_ap, kCs2_ap, kCall_ap]
      rw [(hs i _ _ (List.getElem?_eq_getElem (by omega)) (List.getElem?_eq_getElem hi')).at (by omega)]
      simp
    rw [List.filter_eq_nil_iff.mpr (fun _ _ => by simp)]
    rfl
  generalize hj : (ds.length : Int) = j at hlen1 hlen2
  simp only [b__law_same, List.replicate, List.map, List.cons_append, List.nil_append, ex_seq, ex_ite, et_cmp, et_isi, et_or, et_one, ev_isi, ev_var, ev_con, lk_zero, lk_succ, Option.bind_some, kCmp1_ap, kCmp2_ap, e1, Option.map_some, kIf_f, DL.ex_nil, kSq_nx, kIsi_ap, i1, i2, i3, l1, l2, t1, t2, kBl_ap, sc_neb, decide_true, Bool.not_true, kOrT_f, ex_ret, ev_and, ev_cmp, ev_blt, es_cons, es_nil, kCs1_ap, kCs2_ap, kBlt_ap, hlen1, hlen2, sc_eqi, kAnd_t, ev_one]
  rw [hco]
  simp [eq_nil]
theorem m_lsame : ∀ {n : Nat} {M : Mm} {t d : D}, Vw n M t d → PuM defs (n + 1) i__law_same [t, d] M (.bl true)
  | 0, _, _, _, h => same0 h
  | n + 1, M, t, d, h => by
    rcases h with h | ⟨ts, ds, h, hl, hn, hv⟩
    · exact fun k hk => same0 h k (by omega)
    · rcases h with ⟨rfl, rfl⟩ | ⟨h, rfl⟩
      · exact same_seq (bl := false) (bt := true) Sq.tup Sq.tup (by simp) rfl rfl rfl rfl rfl rfl rfl hl hn fun i a b ea eb => m_lsame (hv i a b ea eb)
      · rcases h with rfl | ⟨r, rfl, hr⟩
        · exact same_seq (bl := true) (bt := false) Sq.lst Sq.lst (by simp) rfl rfl rfl rfl rfl rfl rfl hl hn fun i a b ea eb => m_lsame (hv i a b ea eb)
        · exact same_seq (bl := true) (bt := false) (Sq.ref hr) Sq.lst (by simp) rfl rfl rfl rfl (by simp [semIsi, tyOf, hr, tyLe]) rfl (by simp [semIsi, tyOf, hr, tyLe]) hl hn fun i a b ea eb => m_lsame (hv i a b ea eb)
theorem vw_fr {n : Nat} {M : Mm} {q : Rat} : Vw (n + 1) M (fr q) (fr q) := by
  refine .inr ⟨_, _, .inl ⟨rfl, rfl⟩, rfl, by simp, fun i a b ha hb => ?_⟩
  rw [ha] at hb
  injection hb with hb
  subst hb
  match i, ha with
  | 0, ha => simp at ha; subst ha; cases n <;> simp [Vw]
  | 1, ha => simp at ha; subst ha; cases n <;> simp [Vw]
theorem vw_bl {n : Nat} {M : Mm} {b : Bool} : Vw n M (.bl b) (.bl b) := by cases n <;> simp [Vw]
theorem vw_int {n : Nat} {M : Mm} {b : Int} : Vw n M (.int b) (.int b) := by cases n <;> simp [Vw]
theorem vw_tup {n : Nat} {M : Mm} {ds : List D} (hl : ds.length ≤ 64) (h : ∀ d ∈ ds, Vw n M d d) : Vw (n + 1) M (.tup ds) (.tup ds) :=
  .inr ⟨ds, ds, .inl ⟨rfl, rfl⟩, rfl, hl, fun i a b ha hb => by
    rw [ha] at hb
    injection hb with hb
    subst hb
    exact h a (List.mem_of_getElem? ha)⟩
theorem vw_lst {n : Nat} {M : Mm} {ds : List D} (hl : ds.length ≤ 64) (h : ∀ d ∈ ds, Vw n M d d) : Vw (n + 1) M (.lst ds) (.lst ds) :=
  .inr ⟨ds, ds, .inr ⟨.inl rfl, rfl⟩, rfl, hl, fun i a b ha hb => by
    rw [ha] at hb
    injection hb with hb
    subst hb
    exact h a (List.mem_of_getElem? ha)⟩
theorem vw_box {n : Nat} {M : Mm} {b : List Row} (hl : b.length ≤ 64) : Vw (n + 3) M (boxD b) (boxD b) := by
  refine vw_tup (by rw [List.length_map]; exact hl) fun d m => ?_
  obtain ⟨r, _, rfl⟩ := List.mem_map.mp m
  refine vw_tup (by simp) fun d m => ?_
  simp at m
  rcases m with rfl | rfl <;> exact vw_fr
/-! ### the law's draws -/
/-- the cell's box: what is left, and how often was drawn -/
structure Bst (M : Mm) (b : Nat) (c0 : Nat) : Prop where
  ex : ∃ (a : Int) (g : Bool) (m c : Int), M[b]? = some (.lst [.int a, .bl g, .int m, .int c]) ∧ 0 ≤ m ∧ m < 2147483629 ∧ 0 ≤ c ∧ c ≤ c0
theorem ix_ref {M : Mm} {b : Nat} {ds : List D} {k : Int} (h : M[b]? = some (.lst ds)) : semIx M (.ref b) (.int k) = L2.atI ds k := (Sq.ref h).ix k
theorem at_2 {a b c : D} {ds : List D} : L2.atI (a :: b :: c :: ds) 2 = some c := at_nat (n := 2) rfl
theorem at_3 {a b c d : D} {ds : List D} : L2.atI (a :: b :: c :: d :: ds) 3 = some d := at_nat (n := 3) rfl
theorem put_ref {M : Mm} {b : Nat} {ds : List D} {k : Nat} {d : D} (h : M[b]? = some (.lst ds)) (hk : k < ds.length) : semPut M (.ref b) (.int (k : Nat)) d = some (M.set b (.lst (ds.set k d))) := by
  have e : L2.ixN ds.length ((k : Nat) : Int) = some k := by
    unfold L2.ixN
    rw [if_pos (by omega), if_pos (by omega)]
    congr 1
  simp only [semPut, h, intOf, Option.bind_eq_bind, Option.bind_some, e]
theorem m_ltake {M : Mm} {b c0 : Nat} {many : Int} (h : Bst M b c0) (hc : c0 ≤ 1000000) (h1 : 0 < many) (h2 : many ≤ 64) :
    ∃ (i : Int) (o : MO), 0 ≤ i ∧ i < many ∧ Bst (M.set b o) b (c0 + 1) ∧ ∀ k, 1 ≤ k → callN defs k i__law_take [.ref b, .int many] M = some (.int i, M.set b o) := by
  obtain ⟨a, g, m, c, hM, hm1, hm2, hc1, hc2⟩ := h.ex
  have hbl : b < M.length := (List.getElem?_eq_some_iff.mp hM).1
  have fin : ∀ (i : Int) (o : MO), (∀ f, ∃ env', exS (callN defs f) b__law_take [some (.ref b), some (.int many), none, none] M = some (.rt (.int i), env', M.set b o)) → ∀ k, 1 ≤ k → callN defs k i__law_take [.ref b, .int many] M = some (.int i, M.set b o) := fun i o he k hk => by
    obtain ⟨f, rfl⟩ : ∃ j, k = j + 1 := ⟨k - 1, by omega⟩
    obtain ⟨env', e⟩ := he f
    show (match exS (callN defs f) b__law_take [some (.ref b), some (.int many), none, none] M with | some (.rt d, _, M') => retOf true M d M' | some (.nx, _, M') => retOf true M .non M' | _ => none) = _
    rw [e]
    simp [retOf]
  have ix0 : semIx M (.ref b) (.int 0) = some (.int a) := by rw [ix_ref hM]; exact at_0
  have ix1 : semIx M (.ref b) (.int 1) = some (.bl g) := by rw [ix_ref hM]; exact at_1
  have ix2 : semIx M (.ref b) (.int 2) = some (.int m) := by rw [ix_ref hM]; exact at_2
  have ix3 : semIx M (.ref b) (.int 3) = some (.int c) := by rw [ix_ref hM]; exact at_3
  by_cases hg : g = true ∧ 0 < a
  · obtain ⟨rfl, ha⟩ := hg
    have hdv : divB many = true := by
      unfold divB
      rw [Bool.and_eq_true, decide_eq_true_eq, decide_eq_true_eq]
      refine ⟨h1, ?_⟩
      have := log2_mono (show many.natAbs ≤ 64 by omega)
      have : Nat.log2 64 = 6 := by decide +kernel
      omega
    refine ⟨a % many, .lst [.int (a / many), .bl true, .int m, .int c], Int.emod_nonneg _ (by omega), Int.emod_lt_of_pos _ h1, ⟨⟨a / many, true, m, c, List.getElem?_set_self hbl, hm1, hm2, hc1, by omega⟩⟩, fin _ _ fun f => ?_⟩
    have hp : ∀ d, semPut M (.ref b) (.int 0) d = some (M.set b (.lst [d, .bl true, .int m, .int c])) := fun d => put_ref (k := 0) hM (by simp)
    simp only [b__law_take, ex_seq, ex_ite, et_and, et_idx, ev_idx, ev_var, ev_con, lk_zero, lk_succ, Option.bind_some, kIx1_ap, kIx2_ap, ix0, ix1, Option.map_some, kTr_ap, tr_bl, kAndT_t, et_one, et_cmp, kCmp1_ap, kCmp2_ap, sc_gt, decide_eq_true ha, kIf_t, ex_set, ev_op, ev_blt, es_cons, es_nil, kCs1_ap, kCs2_ap, kBlt_ap, sb_int, kOp1_ap, kOp2_ap, so_mod, decide_eq_true h1, iff_t, kSet_ap, asg_nm, List.set, kSq_nx, ex_put, so_fdiv, hdv, kPut1_ap, kPut2_ap, kPut3_ap, hp, ex_ret, kRet_ap, kSq_rt]
    exact ⟨_, rfl⟩
  · have hp : ∀ d, semPut M (.ref b) (.int 3) d = some (M.set b (.lst [.int a, .bl g, .int m, d])) := fun d => put_ref (k := 3) hM (by simp)
    have hM' : (M.set b (.lst [.int a, .bl g, .int m, .int (c + 1)]))[b]? = some (.lst [.int a, .bl g, .int m, .int (c + 1)]) := List.getElem?_set_self hbl
    have jx2 : semIx (M.set b (.lst [.int a, .bl g, .int m, .int (c + 1)])) (.ref b) (.int 2) = some (.int m) := by rw [ix_ref hM']; exact at_2
    have jx3 : semIx (M.set b (.lst [.int a, .bl g, .int m, .int (c + 1)])) (.ref b) (.int 3) = some (.int (c + 1)) := by rw [ix_ref hM']; exact at_3
    have tst : ∀ f, evT (callN defs f) (.and (.idx (.var 0) (.con (.int 1))) (.one (.cmp .gt (.idx (.var 0) (.con (.int 0))) (.con (.int 0))))) [some (.ref b), some (.int many), none, none] M = some (false, M) := fun f => by
      simp only [et_and, et_idx, ev_idx, ev_var, ev_con, lk_zero, lk_succ, Option.bind_some, kIx1_ap, kIx2_ap, ix0, ix1, Option.map_some, kTr_ap, tr_bl]
      cases g with
      | false => rfl
      | true =>
        have : ¬ 0 < a := fun q => hg ⟨rfl, q⟩
        simp [ix0, this]
    generalize hM2 : M.set b (.lst [.int a, .bl g, .int m, .int (c + 1)]) = M2 at hM' jx2 jx3
    have ml1 : mulB 15484879 (c + 1) = true := mulB_ok (by decide +kernel) (by
      have := log2_mono (show (c + 1).natAbs ≤ 2 ^ 20 by omega)
      rw [Nat.log2_two_pow] at this
      omega)
    have ml3 : mulB 4721 (c + 1) = true := mulB_ok (by decide +kernel) (by
      have := log2_mono (show (c + 1).natAbs ≤ 2 ^ 20 by omega)
      rw [Nat.log2_two_pow] at this
      omega)
    generalize hx : m + 15484879 * (c + 1) + 179424317 = x
    have hx0 : x.natAbs < 2 ^ 64 := by omega
    have p5 : CPowB x 5 = true := by
      unfold CPowB
      rw [decide_eq_true hx0]; rfl
    have hmix1 : 0 ≤ x ^ 5 % 2147483647 := Int.emod_nonneg _ (by decide)
    have hmix2 : x ^ 5 % 2147483647 < 2147483647 := Int.emod_lt_of_pos _ (by decide)
    have hp5 : x ^ (5 : Int).toNat = x ^ 5 := rfl
    generalize hmix : x ^ 5 % 2147483647 = mx at hmix1 hmix2
    have ml2 : mulB mx 48271 = true := mulB_ok (by
      have := log2_mono (show mx.natAbs ≤ 2 ^ 31 by omega)
      rw [Nat.log2_two_pow] at this
      omega) (by decide +kernel)
    generalize hy : mx * 48271 + 4721 * (c + 1) = y
    have hy0 : y.natAbs < 2 ^ 64 := by omega
    have p3 : CPowB y 3 = true := by
      unfold CPowB
      rw [decide_eq_true hy0]; rfl
    have d64 : divB 64 = true := by decide +kernel
    have hp3 : y ^ (3 : Int).toNat = y ^ 3 := rfl
    refine ⟨y ^ 3 % 2147483587 / 64 % many, .lst [.int a, .bl g, .int m, .int (c + 1)], Int.emod_nonneg _ (by omega), Int.emod_lt_of_pos _ h1, ⟨⟨a, g, m, c + 1, by rw [hM2]; exact hM', hm1, hm2, by omega, by omega⟩⟩, fin _ _ fun f => ?_⟩
    rw [hM2]
    simp only [b__law_take, ex_seq, ex_ite, tst, Option.bind_some, kIf_f, DL.ex_nil, kSq_nx, ex_put, ev_op, ev_idx, ev_var, ev_con, lk_zero, lk_succ, kIx1_ap, kIx2_ap, ix3, Option.map_some, kOp1_ap, kOp2_ap, so_add, kPut1_ap, kPut2_ap, kPut3_ap, hp, hM2, ex_set, ev_blt, es_cons, es_nil, jx2, jx3, so_mul, ml1, iff_t, hx, so_pow, p5, hp5, kCs1_ap, kCs2_ap, kBlt_ap, sb_int, so_mod, show decide ((0 : Int) < 2147483647) = true from rfl, hmix, kSet_ap, asg_nm, List.set, ex_ret, ml2, ml3, hy, p3, hp3, show decide ((0 : Int) < 2147483587) = true from rfl, so_fdiv, d64, decide_eq_true h1, kRet_ap, kSq_rt]
    exact ⟨_, rfl⟩
end X

set_option maxRecDepth 100000
namespace X
/-! ### the greatest fall -/
section
variable {a b : List Row} {S : List (List Row)} {y v : Rat}
theorem gt_lo {x y : Rat} (h : x ≤ y) : gt y x = y := by unfold gt; rw [if_neg (by grind)]
theorem gt_hi {x y : Rat} (h : y ≤ x) : gt y x = x := by unfold gt; split <;> grind
theorem drawn_line {c : List Row} {lo hi : Rat} (hl : lo ≤ y) (hh : y ≤ hi) (hc : ∀ r ∈ c, r.1 ≤ lo ∨ hi ≤ r.1) : (hi - lo) * drawn c y = (hi - y) * drawn c lo + (y - lo) * drawn c hi := by
  rw [drawn_ex, drawn_ex, drawn_ex, ← ex_smul, ← ex_smul, ← ex_smul, ← ex_add]
  refine ex_congr fun r hr => ?_
  rcases hc r hr with h | h
  · rw [gt_lo (by grind), gt_lo (by grind), gt_lo (by grind)]; grind
  · rw [gt_hi (by grind), gt_hi (by grind), gt_hi (by grind)]; grind
theorem drawn_top (h : Bx a) (ht : ∀ r ∈ a, r.1 ≤ y) : drawn a y = y := by
  rw [drawn_ex]
  have : ex a (gt y) = ex a fun _ => y := ex_congr fun r hr => gt_lo (ht r hr)
  rw [this, h.const]
theorem drawn_bot (ht : ∀ r ∈ a, y ≤ r.1) : drawn a y = ex a fun x => x := by
  rw [drawn_ex]
  exact ex_congr fun r hr => gt_hi (ht r hr)
theorem w2 {x : Rat} : x ∈ worths [a, b] ↔ (∃ r ∈ a, r.1 = x) ∨ ∃ r ∈ b, r.1 = x := by
  unfold worths
  simp [List.mem_map]
theorem fall_le (ha : Bx a) (hb : Bx b) (hv : ∀ w ∈ worths [a, b], fall a b w ≤ v) (y : Rat) : fall a b y ≤ v := by
  have hne : worths [a, b] ≠ [] := by
    obtain ⟨r, hr⟩ := List.exists_mem_of_ne_nil _ ha.ne
    exact List.ne_nil_of_mem (w2.mpr (.inl ⟨r, hr, rfl⟩))
  have ina : ∀ r ∈ a, r.1 ∈ worths [a, b] := fun r hr => w2.mpr (.inl ⟨r, hr, rfl⟩)
  have inb : ∀ r ∈ b, r.1 ∈ worths [a, b] := fun r hr => w2.mpr (.inr ⟨r, hr, rfl⟩)
  by_cases h1 : (worths [a, b]).filter (fun w => !decide (y < w)) = []
  · -- all above
    have all : ∀ w ∈ worths [a, b], y < w := fun w hw => by
      have := List.filter_eq_nil_iff.mp h1 w hw
      simpa using this
    obtain ⟨m, hm, hmin⟩ := has_max (fun w : Rat => -w) hne
    have e1 : fall a b y = fall a b m := by
      unfold fall
      rw [drawn_bot (y := y) fun r hr => Rat.le_of_lt (all _ (ina r hr)), drawn_bot (y := y) fun r hr => Rat.le_of_lt (all _ (inb r hr)),
        drawn_bot (y := m) fun r hr => by have := hmin _ (ina r hr); grind, drawn_bot (y := m) fun r hr => by have := hmin _ (inb r hr); grind]
    rw [e1]; exact hv m hm
  · by_cases h2 : (worths [a, b]).filter (fun w => decide (y < w)) = []
    · have all : ∀ w ∈ worths [a, b], w ≤ y := fun w hw => by
        have := List.filter_eq_nil_iff.mp h2 w hw
        exact Rat.not_lt.mp (by simpa using this)
      obtain ⟨m, hm, hmax⟩ := has_max (fun w : Rat => w) hne
      have e1 : fall a b y = fall a b m := by
        unfold fall
        rw [drawn_top ha fun r hr => all _ (ina r hr), drawn_top hb fun r hr => all _ (inb r hr), drawn_top (y := m) ha fun r hr => hmax _ (ina r hr), drawn_top (y := m) hb fun r hr => hmax _ (inb r hr)]
        grind
      rw [e1]; exact hv m hm
    · obtain ⟨lo, hlo, hlom⟩ := has_max (fun w : Rat => w) h1
      obtain ⟨hi, hhi, hhim⟩ := has_max (fun w : Rat => -w) h2
      obtain ⟨lo1, lo2⟩ := List.mem_filter.mp hlo
      obtain ⟨hi1, hi2⟩ := List.mem_filter.mp hhi
      have lo2' : lo ≤ y := Rat.not_lt.mp (by simpa using lo2)
      have hi2' : y < hi := by simpa using hi2
      have side : ∀ w ∈ worths [a, b], w ≤ lo ∨ hi ≤ w := fun w hw => by
        by_cases q : y < w
        · right
          have := hhim w (List.mem_filter.mpr ⟨hw, by simpa using q⟩)
          grind
        · left
          exact hlom w (List.mem_filter.mpr ⟨hw, by simpa using q⟩)
      have la := drawn_line (c := a) lo2' (Rat.le_of_lt hi2') fun r hr => side _ (ina r hr)
      have lb := drawn_line (c := b) lo2' (Rat.le_of_lt hi2') fun r hr => side _ (inb r hr)
      have v1 := hv lo lo1
      have v2 := hv hi hi1
      have e : (hi - lo) * fall a b y = (hi - y) * fall a b lo + (y - lo) * fall a b hi := by
        unfold fall
        have : (hi - lo) * (drawn a y - drawn b y) = (hi - lo) * drawn a y - (hi - lo) * drawn b y := by grind
        rw [this, la, lb]; grind
      have p1 : (hi - y) * fall a b lo ≤ (hi - y) * v := Rat.mul_le_mul_of_nonneg_left v1 (by grind)
      have p2 : (y - lo) * fall a b hi ≤ (y - lo) * v := Rat.mul_le_mul_of_nonneg_left v2 (by grind)
      have p3 : (hi - lo) * fall a b y ≤ (hi - lo) * v := by grind
      exact Rat.le_of_mul_le_mul_left p3 (by grind)
theorem em_swap : ∀ {S : List (List Row)} {y : Rat} {f : Rat → Rat}, ex a (fun x => EE S f (gt y x)) = EE S (fun z => ex a fun x => f (gt z x)) y
  | [], _, _ => rfl
  | c :: S, y, f => by
    have e1 : (ex a fun x => EE (c :: S) f (gt y x)) = ex a fun x => ex c fun w => EE S f (gt (gt y x) w) := rfl
    rw [e1, ex_comm]
    show _ = ex c fun w => EE S _ (gt y w)
    refine ex_congr fun s _ => ?_
    rw [← em_swap]
    exact ex_congr fun r _ => by rw [gt_swap]
theorem EE_le {f : Rat → Rat} {c : Rat} : ∀ {S : List (List Row)} {y : Rat}, (∀ b ∈ S, Bx b) → (∀ z, f z ≤ c) → EE S f y ≤ c
  | [], y, _, h => h y
  | b :: S, y, hb, h => by
    unfold EE
    have e0 : ex b (fun _ => c) = c := (hb b List.mem_cons_self).const
    have e1 : (ex b fun x => EE S f (gt y x)) ≤ ex b fun _ => c := ex_le (hb b List.mem_cons_self).nn fun r _ => EE_le (fun d m => hb d (List.mem_cons_of_mem _ m)) h
    rwa [e0] at e1
theorem em_fall (hS : ∀ b ∈ S, Bx b) (hv : ∀ z, fall a b z ≤ v) : em (a :: S) y - em (b :: S) y ≤ v := by
  have e1 : ∀ a, em (a :: S) y = EE S (fun z => drawn a z) y := fun a => by
    rw [em_cons]
    exact em_swap (f := fun x => x)
  rw [e1, e1, ← EE_sub]
  exact EE_le hS hv
theorem em_one : em [a] y = drawn a y := by
  rw [em_cons, drawn_ex]
  rfl
end
/-! ### right openings -/
theorem gts_props {xs : List Rat} (h : xs ≠ []) : gts xs ∈ xs ∧ ∀ x ∈ xs, x ≤ gts xs := by
  cases xs with
  | nil => exact absurd rfl h
  | cons x xs =>
    show xs.foldl gt x ∈ x :: xs ∧ ∀ z ∈ x :: xs, z ≤ xs.foldl gt x
    have : ∀ (xs : List Rat) (x : Rat), xs.foldl gt x ∈ x :: xs ∧ x ≤ xs.foldl gt x ∧ ∀ z ∈ xs, z ≤ xs.foldl gt x := by
      intro xs
      induction xs with
      | nil => intro x; exact ⟨List.mem_cons_self, Rat.le_refl, fun z m => nomatch m⟩
      | cons w xs ih =>
        intro x
        obtain ⟨h1, h2, h3⟩ := ih (gt x w)
        refine ⟨?_, Rat.le_trans (le_gt x w) h2, fun z m => ?_⟩
        · rw [List.foldl_cons]
          rcases List.mem_cons.mp h1 with q | q
          · rw [q]
            rcases gt_mem x w with e | e <;> rw [e] <;> simp
          · exact List.mem_cons_of_mem _ (List.mem_cons_of_mem _ q)
        · rw [List.foldl_cons]
          rcases List.mem_cons.mp m with q | q
          · rw [q]; exact Rat.le_trans (le_gt2 x w) h2
          · exact h3 z q
    obtain ⟨h1, h2, h3⟩ := this xs x
    exact ⟨h1, fun z m => (List.mem_cons.mp m).elim (fun q => by rw [q]; exact h2) (h3 z)⟩
theorem last_order {xs : List Rat} (h : xs ≠ []) : lastR (inOrder xs) = gts xs := by
  obtain ⟨h1, h2⟩ := gts_props h
  obtain ⟨o1, o2, _⟩ := inOrder_props xs
  exact lastR_eq o1 ((o2 _).mpr h1) fun y hy => h2 y ((o2 y).mp hy)
section
variable {cs : List Cos} {c : Cos} {k : Nat} {y : Rat}
theorem res_mem (hc : c ∈ cs) : reserve c.1 c.2 ∈ reserves cs := List.mem_map.mpr ⟨c, hc, rfl⟩
theorem res_ne (h : cs ≠ []) : reserves cs ≠ [] := by unfold reserves; simpa using h
theorem rem_first (hl : cs.length ≤ 3) (hk : cs[k]? = some c) : cs.Perm (c :: rem cs (2 ^ k)) := by
  have := rem_perm (m := 0) hl (by decide) hk (by simp)
  rwa [rem_zero, Nat.zero_add] at this
theorem right_k (h : ∀ c ∈ cs, Wf c) (hl : cs.length ≤ 3) (hk : cs[k]? = some c) : (opn (rem cs (2 ^ k)) c y = em (cs.map cap) y) ↔ (reserve c.1 c.2 = gts (reserves cs) ∧ ¬ gts (reserves cs) < y) := by
  have hc : c ∈ cs := List.mem_of_getElem? hk
  have hp := rem_first hl hk
  obtain ⟨g1, g2⟩ := gts_props (res_ne (List.ne_nil_of_mem hc))
  rw [em_perm (hp.map cap)]
  constructor
  · intro e
    refine Classical.byContradiction fun hn => ?_
    have : opn (rem cs (2 ^ k)) c y < em ((c :: rem cs (2 ^ k)).map cap) y := opn_lt (rem_wf h) (h c hc) (by
      by_cases hy : gts (reserves cs) < y
      · left
        have := g2 _ (res_mem hc)
        grind
      · right
        have hne : ¬ reserve c.1 c.2 = gts (reserves cs) := fun q => hn ⟨q, hy⟩
        obtain ⟨d, hd, hdr⟩ := List.mem_map.mp g1
        have hlt : reserve c.1 c.2 < reserve d.1 d.2 := by
          have := g2 _ (res_mem hc)
          rw [hdr]
          exact Rat.lt_of_le_of_ne this hne
        refine ⟨d, ?_, hlt⟩
        rcases List.mem_cons.mp (hp.mem_iff.mp hd) with q | q
        · rw [q] at hlt; exact absurd hlt Rat.lt_irrefl
        · exact q)
    rw [e] at this
    exact Rat.lt_irrefl this
  · rintro ⟨e, hy⟩
    refine opn_eq (rem_wf h) (h c hc) (by rw [e]; exact Rat.not_lt.mp hy) fun d hd => ?_
    rw [e]
    exact g2 _ (res_mem (sel_mem d hd))
theorem right_stop (h : ∀ c ∈ cs, Wf c) (hne : cs ≠ []) : (em (cs.map cap) y = y) ↔ ¬ y < gts (reserves cs) := by
  obtain ⟨g1, g2⟩ := gts_props (res_ne hne)
  constructor
  · intro e hlt
    obtain ⟨d, hd, hdr⟩ := List.mem_map.mp g1
    have := stop_lt h (y := y) ⟨d, hd, by rw [hdr]; exact hlt⟩
    rw [e] at this
    exact Rat.lt_irrefl this
  · intro hn
    exact stop_eq h fun d hd => Rat.le_trans (g2 _ (res_mem hd)) (Rat.not_lt.mp hn)
theorem open_w (hl : cs.length ≤ 3) (hk : k < cs.length) : openW cs k c y = opn (rem cs (2 ^ k)) c y := by
  unfold openW opn
  have : (sel cs fun i => !decide (i = k)) = rem cs (2 ^ k) := by
    unfold rem
    refine sel_congr fun i hi => ?_
    have := bit_set 0 (by decide) k (by omega) (by simp) i (by omega)
    rw [Nat.zero_add] at this
    rw [this]
    simp
  rw [this]
end
end X

set_option maxRecDepth 100000
namespace DL
open PySem
/-- a def that makes objects of its own and gives back a value, at one store -/
theorem PuM.mkF {defs : List Df} {n f : Nat} {args : List D} {M : Mm} {res : D} {df : Df} (hd : defs[f]? = some df) (hl : args.length = df.np ∧ df.np ≤ df.ns) (hz : df.fz = true)
    (h : ∀ k, n ≤ k → ∃ d env' X, exS (callN defs k) df.body (args.map some ++ List.replicate (df.ns - df.np) none) M = some (.rt d, env', M ++ X) ∧ X ≠ [] ∧ frz M.length (M ++ X) 8 d = some res) : PuM defs (n + 1) f args M res := by
  intro k hk
  cases k with
  | zero => omega
  | succ k =>
    obtain ⟨d, env', X, e, hX, e2⟩ := h k (by omega)
    have ok : okTake M (M ++ X) = true := by
      unfold okTake
      rw [List.all_eq_true]
      intro i hi
      rw [List.getElem?_append_left (List.mem_range.mp hi)]
      simp
    simp only [callN, hd, hl, and_self, if_true, e, retOf, hz, ok, e2, Option.map_some]
    have hl : ¬ (M ++ X).length ≤ M.length := by
      rw [List.length_append]
      have := List.length_pos_iff.mpr hX
      omega
    rw [if_neg hl, List.take_left]
/-- a loop that only sets its own variable -/
theorem for_same {α : Type} {body : En → Mm → Option (Fl × En × Mm)} {t : Tg} {src : List (Nat × List D)} {M : Mm} (hs : chks src M = true) (g : α → D) (Env : Option D → En) :
    ∀ (xs : List α) (o : Option D), (∀ x ∈ xs, ∀ o, asg t (g x) (Env o) = some (Env (some (g x))) ∧ body (Env (some (g x))) M = some (.nx, Env (some (g x)), M)) → ∃ o', forGo body t src (xs.map g) (Env o) M = some (.nx, Env o', M)
  | [], o, _ => ⟨o, by rw [List.map_nil, for_nilS hs]⟩
  | x :: xs, o, h => by
    obtain ⟨o', e⟩ := for_same hs g Env xs (some (g x)) fun y m => h y (List.mem_cons_of_mem _ m)
    obtain ⟨h1, h2⟩ := h x List.mem_cons_self o
    refine ⟨o', ?_⟩
    rw [List.map_cons, for_consS hs, h1, Option.bind_some, kTurn_ap, h2, Option.bind_some, kLoop_nx, e]
theorem seq_nx {call : CallF} {s r : S} {env env2 : En} {M M2 : Mm} (h : exS call s env M = some (.nx, env2, M2)) : exS call (.seq s r) env M = exS call r env2 M2 := by
  rw [ex_seq, h]; rfl
theorem seq_rt {call : CallF} {s r : S} {env env2 : En} {M M2 : Mm} {d : D} (h : exS call s env M = some (.rt d, env2, M2)) : exS call (.seq s r) env M = some (.rt d, env2, M2) := by
  rw [ex_seq, h]; rfl
theorem eqv_ints : ∀ ks : List Nat, PyData.eqvAll (ks.map fun i => PyData.int (i : Nat)) (ks.map fun i => PyData.int (i : Nat)) = true
  | [] => rfl
  | k :: ks => by
    rw [List.map_cons]
    simp [PyData.eqvAll, PyData.eqv, eqv_ints ks]
theorem toPy_ints {M : Mm} {n : Nat} : ∀ ks : List Nat, (ks.map fun i => D.int (i : Nat)).mapM (toPy (n + 1) M) = some (ks.map fun i => PyData.int (i : Nat))
  | [] => rfl
  | k :: ks => by
    rw [List.map_cons, List.mapM_cons, toPy_ints ks]; rfl
theorem ne_right {M : Mm} {ks : List Nat} {b : Bool} : semC M .ne (.tup [.lst (ks.map fun i => D.int (i : Nat)), .bl b]) (.tup [.lst (ks.map fun i => D.int (i : Nat)), .bl b]) = some false := by
  have h1 : toPy 58 M (.lst (ks.map fun i => D.int (i : Nat))) = some (.list (ks.map fun i => PyData.int (i : Nat))) := by
    show ((ks.map fun i => D.int (i : Nat)).mapM (toPy 57 M)).map PyData.list = _
    rw [toPy_ints (n := 56)]; rfl
  have h2 : toPy 60 M (.tup [.lst (ks.map fun i => D.int (i : Nat)), .bl b]) = some (.tuple [.list (ks.map fun i => PyData.int (i : Nat)), .bool b]) := by
    show (([.lst (ks.map fun i => D.int (i : Nat)), .bl b] : List D).mapM (toPy 59 M)).map PyData.tuple = _
    rw [List.mapM_cons, show toPy 59 M (.lst (ks.map fun i => D.int (i : Nat))) = some (.list (ks.map fun i => PyData.int (i : Nat))) by
      show ((ks.map fun i => D.int (i : Nat)).mapM (toPy 58 M)).map PyData.list = _
      rw [toPy_ints (n := 57)]; rfl]
    rfl
  simp only [semC, eqD, h2, Option.bind_eq_bind, Option.bind_some, Option.map_some]
  simp [PyData.eqv, PyData.eqvAll, eqv_ints]
end DL
namespace X
open DL PySem
theorem places_eq (xs : List Rat) (x : Rat) : places xs x = (List.range xs.length).filter fun k => decide (xs[k]? = some x) := by
  have : ∀ (xs : List Rat) (n : Nat), ((xs.zipIdx n).filter fun p => decide (p.1 = x)).map (·.2) = (List.range' n xs.length).filter fun k => decide (xs[k - n]? = some x) := by
    intro xs
    induction xs with
    | nil => intro n; rfl
    | cons a xs ih =>
      intro n
      rw [List.zipIdx_cons, List.length_cons, List.range'_succ]
      have e : (List.range' (n + 1) xs.length).filter (fun k => decide ((a :: xs)[k - n]? = some x)) = (List.range' (n + 1) xs.length).filter fun k => decide (xs[k - (n + 1)]? = some x) := by
        apply List.filter_congr
        intro k hk
        have := (List.mem_range'_1.mp hk).1
        rw [show k - n = (k - (n + 1)) + 1 by omega, List.getElem?_cons_succ]
      by_cases h : a = x
      · rw [List.filter_cons_of_pos (by simpa using h), List.filter_cons_of_pos (by simpa using h), e, List.map_cons, ih]
      · rw [List.filter_cons_of_neg (by simpa using h), List.filter_cons_of_neg (by simpa using h), e, ih]
  unfold places
  have h := this xs 0
  rw [h, List.range_eq_range']
  rfl
theorem Li.tup {M : Mm} {d : D} {xs : List D} {m : Bool} (h : Li M d xs) (hl : xs.length ≤ lim) : semB .tuple m [d] M = some (.tup xs, M) := by
  rcases h with rfl | ⟨n, rfl, hn⟩
  · exact tup_lst hl
  · simp [semB, lstOf, hn, hl]
def rowv (cs : List Cos) (y : Rat) (k : Nat) : Rat := match cs[k]? with | some c => opn (rem cs (2 ^ k)) c y | none => 0
section
variable {n f : Nat} {M : Mm} {d : D} {cs : List Cos} {y : Rat} {t : Int} {env : En}
theorem lr_told (hd : Li M d (cs.map cosD)) (h : ∀ c ∈ cs, Wf c) (hne : cs ≠ []) (hl : cs.length ≤ 3) (hy : L n y) (hn : n ≤ 65) (hf : 9 ≤ f) :
    evE (callN defs f) (.ite (.cmp .eq (.var 2) (.con (.int 0))) (.call 35 (.cons (.var 0) (.cons (.var 1) .nil))) (.callk 35 [1, 0] .nil (.cons (.var 1) (.cons (.blt .tuple false (.cons (.var 0) .nil)) .nil)))) (some d :: some (fr y) :: some (.int t) :: env) M = some (fr (em (cs.map cap) y), M) := by
  have hll : (cs.map cosD).length ≤ lim := by rw [List.length_map]; exact lim64 (by omega)
  by_cases ht : t = 0
  · simp only [ev_ite, et_cmp, ev_var, ev_con, lk_zero, lk_succ, Option.bind_some, kCmp1_ap, kCmp2_ap, sc_eqi, decide_eq_true ht, Option.map_some, kIte_t, ev_call, es_cons, es_nil, kCs1_ap, kCs2_ap, kCall_ap]
    exact (m_opening_worth hd.sl.toSq h hne (by omega) hy hn).at hf
  · simp only [ev_ite, et_cmp, ev_var, ev_con, lk_zero, lk_succ, Option.bind_some, kCmp1_ap, kCmp2_ap, sc_eqi, decide_eq_false ht, Option.map_some, kIte_f, ev_callk, es_cons, es_nil, ev_blt, kCk1_ap, kCs1_ap, kCs2_ap, kBlt_ap, hd.tup hll, kCk2_ap]
    exact (m_opening_worth Sq.tup h hne (by omega) hy hn).at hf
theorem lr_if (hd : Li M d (cs.map cosD)) (h : ∀ c ∈ cs, Wf c) (hl : cs.length ≤ 3) (hy : L n y) (hn : n ≤ 65) (hn7 : 7 ≤ n) (hf : 10 ≤ f) {k : Nat} (hk : k < cs.length) {x3 x4 x5 x6 : Option D} :
    evE (callN defs f) (.ite (.cmp .eq (.var 2) (.con (.int 0))) (.call 36 (.cons (.var 0) (.cons (.var 1) (.cons (.var 7) .nil)))) (.callk 36 [2, 1, 0] .nil (.cons (.var 7) (.cons (.var 1) (.cons (.var 0) .nil))))) (some d :: some (fr y) :: some (.int t) :: x3 :: x4 :: x5 :: x6 :: some (.int (k : Nat)) :: env) M = some (fr (rowv cs y k), M) := by
  have hkc : cs[k]? = some cs[k] := List.getElem?_eq_getElem hk
  have e : rowv cs y k = openW cs k cs[k] y := by rw [open_w hl hk]; unfold rowv; rw [hkc]
  have hw := (m_worth_if_opened hd.sl h (by omega) hy hn hn7 hkc).at hf
  rw [e]
  by_cases ht : t = 0
  · simp only [ev_ite, et_cmp, ev_var, ev_con, lk_zero, lk_succ, Option.bind_some, kCmp1_ap, kCmp2_ap, sc_eqi, decide_eq_true ht, Option.map_some, kIte_t, ev_call, es_cons, es_nil, kCs1_ap, kCs2_ap, kCall_ap]
    exact hw
  · simp only [ev_ite, et_cmp, ev_var, ev_con, lk_zero, lk_succ, Option.bind_some, kCmp1_ap, kCmp2_ap, sc_eqi, decide_eq_false ht, Option.map_some, kIte_f, ev_callk, es_cons, es_nil, kCk1_ap, kCs1_ap, kCs2_ap, kCk2_ap]
    exact hw
theorem lr_right (hd : Li M d (cs.map cosD)) (h : ∀ c ∈ cs, Wf c) (hne : cs ≠ []) (hl : cs.length ≤ 3) (hy : L n y) (hn : n ≤ 65) (hf : 8 ≤ f) :
    evE (callN defs f) (.ite (.cmp .eq (.var 2) (.con (.int 0))) (.call 37 (.cons (.var 0) (.cons (.var 1) .nil))) (.callk 37 [1, 0] .nil (.cons (.var 1) (.cons (.var 0) .nil)))) (some d :: some (fr y) :: some (.int t) :: env) M =
      some (.tup [.ref M.length, .bl (!decide (y < gts (reserves cs)))], M ++ [.lst ((if gts (reserves cs) < y then [] else places (reserves cs) (gts (reserves cs))).map fun i => .int (i : Nat))]) := by
  have hw := m_right_openings hd.sl.toSq h hne (by omega) hy hn f hf
  by_cases ht : t = 0
  · simp only [ev_ite, et_cmp, ev_var, ev_con, lk_zero, lk_succ, Option.bind_some, kCmp1_ap, kCmp2_ap, sc_eqi, decide_eq_true ht, Option.map_some, kIte_t, ev_call, es_cons, es_nil, kCs1_ap, kCs2_ap, kCall_ap]
    exact hw
  · simp only [ev_ite, et_cmp, ev_var, ev_con, lk_zero, lk_succ, Option.bind_some, kCmp1_ap, kCmp2_ap, sc_eqi, decide_eq_false ht, Option.map_some, kIte_f, ev_callk, es_cons, es_nil, kCk1_ap, kCs1_ap, kCs2_ap, kCk2_ap]
    exact hw
end
theorem rowv_L {cs : List Cos} {y : Rat} {n k : Nat} (h : ∀ c ∈ cs, Wf c) (hl : cs.length ≤ 3) (hy : L n y) (hn7 : 7 ≤ n) : L (15 + n) (rowv cs y k) := by
  unfold rowv
  cases e : cs[k]? with
  | none => exact L.zero
  | some c =>
    have hc := h c (List.mem_of_getElem? e)
    have hS := rem_wf (m := 2 ^ k) h
    have hLe : ∀ r ∈ c.2, L (12 + n) (em ((rem cs (2 ^ k)).map cap) (gt y r.1)) := fun r hr =>
      (em_L hS (hy.gt ((hc.lb r hr).1.mono (by omega))) hn7).mono (by have := rem_len (cs := cs) (m := 2 ^ k); omega)
    have := ex_L (b := c.2) (f := fun x => em ((rem cs (2 ^ k)).map cap) (gt y x)) (k := 1) (k' := 12 + n) (fun r hr => (hc.lb r hr).2) hLe (by have := hc.len; omega)
    exact ((this.mono (k' := 14 + n) (by omega)).sub (hc.lc.mono (by omega))).mono (by omega)
end X

set_option maxRecDepth 100000
namespace X
open DL PySem
theorem at_int {xs : List D} {k : Nat} {d : D} (h : xs[k]? = some d) : L2.atI xs ((k : Nat) : Int) = some d := at_nat h
theorem m_llist {n : Nat} {M : Mm} {d : D} {cs : List Cos} {y : Rat} {t : Int} (hd : Li M d (cs.map cosD)) (h : ∀ c ∈ cs, Wf c) (hne : cs ≠ []) (hl : cs.length ≤ 3) (hy : L n y) (hn : n ≤ 65) (hn7 : 7 ≤ n) :
    PuM defs 12 i__law_list_right [d, fr y, .int t] M (.bl true) := by
  refine PuM.mkF (df := ⟨3, 13, true, b__law_list_right⟩) rfl ⟨rfl, by decide⟩ rfl fun f hf => ?_
  obtain ⟨kv, hop, hT⟩ := m_lopened hd h hl hy hn hn7 f (by omega)
  have hll : ∀ g : Cos → D, (cs.map g).length ≤ lim := fun g => by rw [List.length_map]; exact lim64 (by omega)
  have hp8 := pow_le8 hl
  have h0p : 0 < 2 ^ cs.length := Nat.two_pow_pos _
  have hms := marks_self (cs := cs) (y := y)
  have hem : L (9 + n) (em (cs.map cap) y) := (em_L h hy hn7).mono (by omega)
  -- the table's store
  have hd1 : Li (M ++ [.dic kv]) d (cs.map cosD) := hd.ext
  have hix : semIx (M ++ [.dic kv]) (.ref M.length) (.tup [.int 0, fr y]) = some (fr (em (cs.map cap) y)) := by
    rw [ix_dic key_mk]
    have := hT 0 y h0p hms trivial
    rw [rem_zero] at this
    exact this
  have hopen : ∀ k, k < cs.length → callN defs f i__law_open [d, .ref M.length, .int 0, fr y, .int (k : Nat)] (M ++ [.dic kv]) = some (fr (rowv cs y k), M ++ [.dic kv]) := fun k hk => by
    have hkc : cs[k]? = some cs[k] := List.getElem?_eq_getElem hk
    have hr : rowv cs y k = opn (rem cs (2 ^ k)) cs[k] y := by unfold rowv; rw [hkc]
    have hbit : Nat.testBit 0 k = false := by simp
    rw [hr]
    refine (m_lopen (cs := cs) (S := rem cs (2 ^ k)) (mask := ((0 : Nat) : Int)) (sh := ((2 ^ k : Nat) : Int)) (mk := ((0 + 2 ^ k : Nat) : Int)) ?_ (h _ (List.getElem_mem hk)) (rem_wf h) (by have := rem_len (cs := cs) (m := 2 ^ k); omega) hy hn hn7 (bit_shl k (by omega)) (bit_or 0 (by decide) k (by omega) hbit) (fun r hr => ?_)).at (by omega)
    · rw [hd1.sl.ix]
      exact at_nat (by rw [List.getElem?_map, hkc]; rfl)
    · rw [ix_dic key_mk]
      have := hT (0 + 2 ^ k) (gt y r.1) (bit_up _ (by omega) 0 h0p k hk hbit) (marks_gt hms (List.getElem_mem hk) hr) trivial
      rw [this, Nat.zero_add]
  obtain ⟨src1, hit1, hchk1⟩ := hd1.sl.it
  have hlen1 := hd1.sl.len (m := false) (hll _)
  rw [List.length_map] at hlen1
  generalize hM1 : M ++ [MO.dic kv] = M1 at hd1 hix hopen hit1 hchk1 hlen1 hop
  -- rows
  have hrows : evE (callN defs f) (.comp false (.nm 7) [7] (.irange1 (.blt .len false (.cons (.var 0) .nil))) .yes (.call 60 (.cons (.var 0) (.cons (.var 3) (.cons (.con (.int 0)) (.cons (.var 1) (.cons (.var 7) .nil)))))))
      [some d, some (fr y), some (.int t), some (.ref M.length), none, none, none, none, none, none, none, none, none] M1 = some (.lst ((List.range cs.length).map fun k => fr (rowv cs y k)), M1) := by
    rw [ev_comp, len_range rfl (by omega) hlen1]
    simp only [Option.bind_some, kCo_ap]
    rw [comp_yes (fun i : Nat => D.int (i : Nat)) (fun k => fr (rowv cs y k)) (List.range cs.length) rfl fun k hk => ?_]
    · simp only [Option.bind_some, kNew_ap]
      exact new_f (by rw [List.length_map, List.length_range]; exact lim64 (by omega))
    · simp only [wipeD, List.set, asg_nm, Option.bind_some, ev_call, es_cons, es_nil, ev_var, ev_con, lk_zero, lk_succ, kCs1_ap, kCs2_ap, kCall_ap]
      exact hopen k (List.mem_range.mp hk)
  have hrl : (List.range cs.length).length = cs.length := List.length_range
  generalize hrw : ((List.range cs.length).map fun k => fr (rowv cs y k)) = rws at hrows
  have hrwl : rws.length = cs.length := by rw [← hrw, List.length_map, hrl]
  have hrwx : ∀ k, k < cs.length → L2.atI rws ((k : Nat) : Int) = some (fr (rowv cs y k)) := fun k hk => at_nat (by rw [← hrw, List.getElem?_map, List.getElem?_range hk]; rfl)
  have hlenr : semB .len false [.lst rws] M1 = some (.int (cs.length : Nat), M1) := by rw [len_lst (lim64 (by omega)), hrwl]
  -- reserves
  have hR : ∀ x ∈ reserves cs, L 7 x := fun x m => by
    obtain ⟨c, hc, rfl⟩ := List.mem_map.mp m
    exact reserve_L (h c hc)
  have hRl : (reserves cs).length = cs.length := by unfold reserves; rw [List.length_map]
  have hGm := (gts_props (res_ne hne)).1
  have hG := hR _ hGm
  have hRx : ∀ k, k < cs.length → L2.atI ((reserves cs).map fr) ((k : Nat) : Int) = some (fr ((reserves cs)[k]?.getD 0)) := fun k hk => at_nat (by
    rw [List.getElem?_map, List.getElem?_eq_getElem (by omega)]; rfl)
  have hlenR : semB .len false [.lst ((reserves cs).map fr)] M1 = some (.int (cs.length : Nat), M1) := by rw [len_lst (by rw [List.length_map]; exact lim64 (by omega)), List.length_map, hRl]
  -- what is right
  have hpk : ∀ k ∈ List.range cs.length, decide (rowv cs y k = em (cs.map cap) y) = (decide ((reserves cs)[k]?.getD 0 = gts (reserves cs)) && !decide (gts (reserves cs) < y)) := fun k hk => by
    have hk' := List.mem_range.mp hk
    have hkc : cs[k]? = some cs[k] := List.getElem?_eq_getElem hk'
    have hr : rowv cs y k = opn (rem cs (2 ^ k)) cs[k] y := by unfold rowv; rw [hkc]
    have hres : (reserves cs)[k]?.getD 0 = reserve cs[k].1 cs[k].2 := by unfold reserves; rw [List.getElem?_map, hkc]; rfl
    have := right_k (y := y) h hl hkc
    rw [hr, hres, Bool.eq_iff_iff, decide_eq_true_eq, this, Bool.and_eq_true, decide_eq_true_eq, Bool.not_eq_true', decide_eq_false_iff_not]
  have hst : decide (em (cs.map cap) y = y) = !decide (y < gts (reserves cs)) := by
    rw [Bool.eq_iff_iff, decide_eq_true_eq, right_stop h hne, Bool.not_eq_true', decide_eq_false_iff_not]
  have hfl := List.filter_congr hpk
  have hpl : (if gts (reserves cs) < y then [] else places (reserves cs) (gts (reserves cs))) = (List.range cs.length).filter fun k => decide (rowv cs y k = em (cs.map cap) y) := by
    rw [hfl]
    by_cases hlt : gts (reserves cs) < y
    · rw [if_pos hlt]
      exact (List.filter_eq_nil_iff.mpr fun k _ => by simp [hlt]).symm
    · rw [if_neg hlt, places_eq, hRl]
      apply List.filter_congr
      intro k hk
      have hk' := List.mem_range.mp hk
      rw [List.getElem?_eq_getElem (by omega)]
      simp [hlt]
  have hright := fun env => lr_right (M := M1) (t := t) (env := env) hd1 h hne hl hy hn (show 8 ≤ f by omega)
  rw [hpl] at hright
  have hks : ((List.range cs.length).filter fun k => decide (rowv cs y k = em (cs.map cap) y)).length ≤ 64 := Nat.le_trans (List.length_filter_le _ _) (by omega)
  have hksm : ∀ g : Nat → D, (((List.range cs.length).filter fun k => decide (rowv cs y k = em (cs.map cap) y)).map g).length ≤ lim := fun g => by rw [List.length_map]; exact lim64 hks
  generalize hKS : (List.range cs.length).filter (fun k => decide (rowv cs y k = em (cs.map cap) y)) = KS at hright hks hksm
  rw [hKS] at hfl
  generalize hGG : gts (reserves cs) = G at *
  -- the last
  have hbs := cap_lb cs h (by omega)
  have hcx : ∀ b ∈ cs.map cap, Bx b := caps_bx h
  have hcne : cs.map cap ≠ [] := by simpa using hne
  obtain ⟨ws, w1, w2', w3, w4⟩ := pu_greatest_of hbs
  have hgL : LB 65 (gr (cs.map cap) 0 ws) := gr_L hbs (fun w m => worths_L hbs w ((w2' w).mp m)) L.zero
  have hglen : (gr (cs.map cap) 0 ws).length ≤ 32 := by have := gr_len (bs := cs.map cap) (ws := ws) (last := 0); omega
  have hd2 : Li (M1 ++ [.lst ((KS.map fun i => .int (i : Nat)) ++ [.str "more"])]) d (cs.map cosD) := hd1.ext
  obtain ⟨src2, hit2, hchk2⟩ := hd2.sl.it
  have eMM : M ++ [MO.dic kv, .lst ((KS.map fun i => D.int (i : Nat)) ++ [.str "more"])] = M1 ++ [.lst ((KS.map fun i => .int (i : Nat)) ++ [.str "more"])] := by rw [← hM1]; simp
  suffices fin : ∃ env', exS (callN defs f) b__law_list_right [some d, some (fr y), some (.int t), none, none, none, none, none, none, none, none, none, none] M = some (.rt (.bl true), env', M1 ++ [.lst ((KS.map fun i => .int (i : Nat)) ++ [.str "more"])]) by
    obtain ⟨env', e⟩ := fin
    exact ⟨.bl true, env', [.dic kv, .lst ((KS.map fun i => .int (i : Nat)) ++ [.str "more"])], by rw [eMM]; exact e, by simp, frz_cl (k := 7) rfl⟩
  -- steps
  have s1 : exS (callN defs f) (.set (.nm 3) (.call 59 (.cons (.var 0) (.cons (.var 1) .nil)))) [some d, some (fr y), some (.int t), none, none, none, none, none, none, none, none, none, none] M = some (.nx, [some d, some (fr y), some (.int t), some (.ref M.length), none, none, none, none, none, none, none, none, none], M1) := by
    simp only [ex_set, ev_call, es_cons, es_nil, ev_var, lk_zero, lk_succ, Option.bind_some, kCs1_ap, kCs2_ap, kCall_ap]
    rw [hop]
    rfl
  have s2 : exS (callN defs f) (.set (.cons (.nm 4) (.cons (.nm 5) .nil)) (.tup (.cons (.idx (.var 3) (.tup (.cons (.con (.int 0)) (.cons (.var 1) .nil)))) (.cons (.comp false (.nm 7) [7] (.irange1 (.blt .len false (.cons (.var 0) .nil))) .yes (.call 60 (.cons (.var 0) (.cons (.var 3) (.cons (.con (.int 0)) (.cons (.var 1) (.cons (.var 7) .nil))))))) .nil)))) [some d, some (fr y), some (.int t), some (.ref M.length), none, none, none, none, none, none, none, none, none] M1
      = some (.nx, [some d, some (fr y), some (.int t), some (.ref M.length), some (fr (em (cs.map cap) y)), some (.lst rws), none, none, none, none, none, none, none], M1) := by
    simp only [ex_set, ev_tup, es_cons, es_nil, ev_idx, ev_var, ev_con, lk_zero, lk_succ, Option.bind_some, kCs1_ap, kCs2_ap, kTup_ap, List.length_cons, List.length_nil, Nat.zero_add, Nat.reduceAdd, lim2, if_true, kIx1_ap, kIx2_ap, hix, Option.map_some]
    rw [hrows]
    rfl
  have sm : ∀ q, callN defs f i__law_same [fr q, fr q] M1 = some (.bl true, M1) := fun q => (m_lsame (n := 1) vw_fr).at (by omega)
  have s5 : ∀ x6, ∃ o', forGo (exS (callN defs f) (.seq (.ite (.not (.call 45 (.cons (.ite (.cmp .eq (.var 2) (.con (.int 0))) (.call 36 (.cons (.var 0) (.cons (.var 1) (.cons (.var 7) .nil)))) (.callk 36 [2, 1, 0] .nil (.cons (.var 7) (.cons (.var 1) (.cons (.var 0) .nil))))) (.cons (.idx (.var 5) (.var 7)) .nil)))) (.seq (.ret (.con (.bl false))) .nil) .nil) .nil)) (.nm 7) [] ((List.range cs.length).map fun i : Nat => D.int (i : Nat))
      [some d, some (fr y), some (.int t), some (.ref M.length), some (fr (em (cs.map cap) y)), some (.lst rws), x6, none, none, none, none, none, none] M1
      = some (.nx, [some d, some (fr y), some (.int t), some (.ref M.length), some (fr (em (cs.map cap) y)), some (.lst rws), x6, o', none, none, none, none, none], M1) := fun x6 =>
    for_same rfl (fun i : Nat => D.int (i : Nat)) (fun o => [some d, some (fr y), some (.int t), some (.ref M.length), some (fr (em (cs.map cap) y)), some (.lst rws), x6, o, none, none, none, none, none]) (List.range cs.length) none fun k hk o => ⟨rfl, by
      have hk' := List.mem_range.mp hk
      simp only [ex_seq, ex_ite, et_not, et_call, ev_call, es_cons]
      rw [lr_if (t := t) hd1 h hl hy hn hn7 (by omega) hk']
      simp only [Option.bind_some, kCs1_ap, es_cons, es_nil, ev_idx, ev_var, lk_zero, lk_succ, kIx1_ap, kIx2_ap, ix_lst, hrwx k hk', Option.map_some, kCs2_ap, kCall_ap]
      rw [sm]
      rfl⟩
  have s6 : ∀ x6 x7, exS (callN defs f) (.set (.nm 8) (.tup (.cons (.comp false (.nm 7) [7] (.irange1 (.blt .len false (.cons (.var 5) .nil))) (.cmp .eq (.idx (.var 5) (.var 7)) (.var 4)) (.var 7)) (.cons (.cmp .eq (.var 4) (.var 1)) .nil)))) [some d, some (fr y), some (.int t), some (.ref M.length), some (fr (em (cs.map cap) y)), some (.lst rws), x6, x7, none, none, none, none, none] M1
      = some (.nx, [some d, some (fr y), some (.int t), some (.ref M.length), some (fr (em (cs.map cap) y)), some (.lst rws), x6, x7, some (.tup [.lst (KS.map fun i => .int (i : Nat)), .bl (!decide (y < G))]), none, none, none, none], M1) := fun x6 x7 => by
    simp only [ex_set, ev_tup, es_cons]
    rw [ev_comp, len_range rfl (by omega) hlenr]
    simp only [Option.bind_some, kCo_ap]
    rw [comp_if (fun i : Nat => D.int (i : Nat)) (fun i : Nat => D.int (i : Nat)) (fun k => decide (rowv cs y k = em (cs.map cap) y)) (List.range cs.length) rfl (fun k hk => by
      simp only [wipeD, List.set, asg_nm, Option.bind_some, et_cmp, ev_idx, ev_var, lk_zero, lk_succ, kIx1_ap, kIx2_ap, ix_lst, hrwx k (List.mem_range.mp hk), Option.map_some, kCmp1_ap, kCmp2_ap, sc_eqf]) (fun k hk _ => by
      simp only [wipeD, List.set, asg_nm, Option.bind_some, ev_var, lk_zero, lk_succ]), hKS]
    simp only [Option.bind_some, kNew_ap, new_f (hksm _), kCs1_ap, es_cons, es_nil, ev_cmp, et_cmp, ev_var, lk_zero, lk_succ, kCmp1_ap, kCmp2_ap, sc_eqf, hst, Option.map_some, kBl_ap, kCs2_ap, kTup_ap, List.length_cons, List.length_nil, Nat.zero_add, Nat.reduceAdd, lim2, if_true, kSet_ap, asg_nm, List.set]
  have s7 : ∀ x6 x7 x8, exS (callN defs f) (.set (.nm 9) (.comp false (.nm 12) [12] (.iseq (.var 0)) .yes (.call 57 (.cons (.var 12) .nil)))) [some d, some (fr y), some (.int t), some (.ref M.length), some (fr (em (cs.map cap) y)), some (.lst rws), x6, x7, x8, none, none, none, none] M1
      = some (.nx, [some d, some (fr y), some (.int t), some (.ref M.length), some (fr (em (cs.map cap) y)), some (.lst rws), x6, x7, x8, some (.lst ((reserves cs).map fr)), none, none, none], M1) := fun x6 x7 x8 => by
    simp only [ex_set, ev_comp, ei_seq, ev_var, lk_zero, Option.bind_some, kSeq_ap, hit1, Option.map_some, kCo_ap]
    rw [comp_yes cosD (fun c => fr (reserve c.1 c.2)) cs hchk1 fun c hc => by
      simp only [wipeD, List.set, asg_nm, Option.bind_some, ev_call, es_cons, es_nil, ev_var, lk_zero, lk_succ, kCs1_ap, kCs2_ap, kCall_ap]
      exact (pu_lreserve (h c hc)).at _ (by omega)]
    have er : (cs.map fun c => fr (reserve c.1 c.2)) = (reserves cs).map fr := by unfold reserves; rw [List.map_map]; rfl
    rw [er]
    simp only [Option.bind_some, kNew_ap, new_f (show ((reserves cs).map fr).length ≤ lim by rw [List.length_map]; exact lim64 (by omega)), kSet_ap, asg_nm, List.set, Option.map_some]
  have hord := (pu_lin_order hR (by omega) (by omega)).at M1 (k := f) (by omega)
  have hlast : L2.atI ((inOrder (reserves cs)).map fr) (-1) = some (fr G) := by
    have hn0 : inOrder (reserves cs) ≠ [] := List.ne_nil_of_mem (((inOrder_props _).2.1 _).mpr hGm)
    rw [at_neg (by simpa using hn0), last_fr hn0, last_order (res_ne hne), hGG]
  have s8 : ∀ x6 x7 x8, exS (callN defs f) (.set (.nm 10) (.idx (.call 53 (.cons (.var 9) .nil)) (.neg (.con (.int 1))))) [some d, some (fr y), some (.int t), some (.ref M.length), some (fr (em (cs.map cap) y)), some (.lst rws), x6, x7, x8, some (.lst ((reserves cs).map fr)), none, none, none] M1
      = some (.nx, [some d, some (fr y), some (.int t), some (.ref M.length), some (fr (em (cs.map cap) y)), some (.lst rws), x6, x7, x8, some (.lst ((reserves cs).map fr)), some (fr G), none, none], M1) := fun x6 x7 x8 => by
    simp only [ex_set, ev_idx, ev_call, es_cons, es_nil, ev_var, lk_zero, lk_succ, Option.bind_some, kCs1_ap, kCs2_ap, kCall_ap]
    rw [hord]
    simp only [Option.bind_some, kIx1_ap, ev_neg, ev_con, kNeg_ap, kIx2_ap, ix_lst, hlast, Option.map_some, kSet_ap, asg_nm, List.set]
  have s9 : ∀ x6 x7, exS (callN defs f) (.ite (.cmp .ne (.var 8) (.tup (.cons (.comp false (.nm 7) [7] (.irange1 (.blt .len false (.cons (.var 9) .nil))) (.and (.cmp .eq (.idx (.var 9) (.var 7)) (.var 10)) (.one (.not (.call 51 (.cons (.var 10) (.cons (.var 1) .nil)))))) (.var 7)) (.cons (.not (.call 51 (.cons (.var 1) (.cons (.var 10) .nil)))) .nil)))) (.seq (.ret (.con (.bl false))) .nil) .nil)
      [some d, some (fr y), some (.int t), some (.ref M.length), some (fr (em (cs.map cap) y)), some (.lst rws), x6, x7, some (.tup [.lst (KS.map fun i => .int (i : Nat)), .bl (!decide (y < G))]), some (.lst ((reserves cs).map fr)), some (fr G), none, none] M1
      = some (.nx, [some d, some (fr y), some (.int t), some (.ref M.length), some (fr (em (cs.map cap) y)), some (.lst rws), x6, x7, some (.tup [.lst (KS.map fun i => .int (i : Nat)), .bl (!decide (y < G))]), some (.lst ((reserves cs).map fr)), some (fr G), none, none], M1) := fun x6 x7 => by
    simp only [ex_ite, et_cmp, ev_var, lk_zero, lk_succ, Option.bind_some, kCmp1_ap, ev_tup, es_cons]
    rw [ev_comp, len_range rfl (by omega) hlenR]
    simp only [Option.bind_some, kCo_ap]
    rw [comp_if (fun i : Nat => D.int (i : Nat)) (fun i : Nat => D.int (i : Nat)) (fun k => decide ((reserves cs)[k]?.getD 0 = G) && !decide (G < y)) (List.range cs.length) rfl (fun k hk => by
      simp only [wipeD, List.set, asg_nm, Option.bind_some, et_and, et_cmp, ev_idx, ev_var, lk_zero, lk_succ, kIx1_ap, kIx2_ap, ix_lst, hRx k (List.mem_range.mp hk), Option.map_some, kCmp1_ap, kCmp2_ap, sc_eqf]
      by_cases q : (reserves cs)[k]?.getD 0 = G
      · simp only [decide_eq_true q, kAndT_t, et_one, et_not, et_call, ev_call, es_cons, es_nil, ev_var, lk_zero, lk_succ, Option.bind_some, kCs1_ap, kCs2_ap, kCall_ap]
        rw [(pu_lless (hG.ok (by omega)) (hy.ok (by omega))).at _ (by omega)]
        simp
      · simp only [decide_eq_false q, kAndT_f, Bool.false_and]) (fun k hk _ => by
      simp only [wipeD, List.set, asg_nm, Option.bind_some, ev_var, lk_zero, lk_succ]), ← hfl]
    simp only [Option.bind_some, kNew_ap, new_f (hksm _), kCs1_ap, es_cons, es_nil, ev_not, ev_call, ev_var, lk_zero, lk_succ, kCs2_ap, kCall_ap]
    rw [(pu_lless (hy.ok (by omega)) (hG.ok (by omega))).at _ (by omega)]
    simp only [Option.bind_some, kNot_ap, kCs1_ap, es_nil, kCs2_ap, kTup_ap, List.length_cons, List.length_nil, Nat.zero_add, Nat.reduceAdd, lim2, if_true, kCmp2_ap, ne_right, Option.map_some, kIf_f, DL.ex_nil]
  obtain ⟨x7, e5⟩ := s5 (some (fr (em (cs.map cap) y)))
  have s3 : exS (callN defs f) (.set (.nm 6) (.ite (.cmp .eq (.var 2) (.con (.int 0))) (.call 35 (.cons (.var 0) (.cons (.var 1) .nil))) (.callk 35 [1, 0] .nil (.cons (.var 1) (.cons (.blt .tuple false (.cons (.var 0) .nil)) .nil))))) [some d, some (fr y), some (.int t), some (.ref M.length), some (fr (em (cs.map cap) y)), some (.lst rws), none, none, none, none, none, none, none] M1
      = some (.nx, [some d, some (fr y), some (.int t), some (.ref M.length), some (fr (em (cs.map cap) y)), some (.lst rws), some (fr (em (cs.map cap) y)), none, none, none, none, none, none], M1) := by
    rw [ex_set, lr_told (t := t) hd1 h hne hl hy hn (by omega)]
    rfl
  have s4 : exS (callN defs f) (.ite (.not (.call 45 (.cons (.var 6) (.cons (.var 4) .nil)))) (.seq (.ret (.con (.bl false))) .nil) .nil) [some d, some (fr y), some (.int t), some (.ref M.length), some (fr (em (cs.map cap) y)), some (.lst rws), some (fr (em (cs.map cap) y)), none, none, none, none, none, none] M1
      = some (.nx, [some d, some (fr y), some (.int t), some (.ref M.length), some (fr (em (cs.map cap) y)), some (.lst rws), some (fr (em (cs.map cap) y)), none, none, none, none, none, none], M1) := by
    simp only [ex_ite, et_not, et_call, ev_call, es_cons, es_nil, ev_var, lk_zero, lk_succ, Option.bind_some, kCs1_ap, kCs2_ap, kCall_ap]
    rw [sm]
    rfl
  have s5' : exS (callN defs f) (.for_ (.nm 7) (.irange1 (.blt .len false (.cons (.var 0) .nil))) (.seq (.ite (.not (.call 45 (.cons (.ite (.cmp .eq (.var 2) (.con (.int 0))) (.call 36 (.cons (.var 0) (.cons (.var 1) (.cons (.var 7) .nil)))) (.callk 36 [2, 1, 0] .nil (.cons (.var 7) (.cons (.var 1) (.cons (.var 0) .nil))))) (.cons (.idx (.var 5) (.var 7)) .nil)))) (.seq (.ret (.con (.bl false))) .nil) .nil) .nil))
      [some d, some (fr y), some (.int t), some (.ref M.length), some (fr (em (cs.map cap) y)), some (.lst rws), some (fr (em (cs.map cap) y)), none, none, none, none, none, none] M1
      = some (.nx, [some d, some (fr y), some (.int t), some (.ref M.length), some (fr (em (cs.map cap) y)), some (.lst rws), some (fr (em (cs.map cap) y)), x7, none, none, none, none, none], M1) := by
    rw [ex_for, len_range rfl (by omega) hlen1]
    exact e5
  have s10 : ∀ x6 x7 x8 x9 x10, exS (callN defs f) (.set (.nm 11) (.ite (.cmp .eq (.var 2) (.con (.int 0))) (.call 37 (.cons (.var 0) (.cons (.var 1) .nil))) (.callk 37 [1, 0] .nil (.cons (.var 1) (.cons (.var 0) .nil))))) [some d, some (fr y), some (.int t), some (.ref M.length), some (fr (em (cs.map cap) y)), some (.lst rws), x6, x7, x8, x9, x10, none, none] M1
      = some (.nx, [some d, some (fr y), some (.int t), some (.ref M.length), some (fr (em (cs.map cap) y)), some (.lst rws), x6, x7, x8, x9, x10, some (.tup [.ref M1.length, .bl (!decide (y < G))]), none], M1 ++ [.lst (KS.map fun i => .int (i : Nat))]) := fun x6 x7 x8 x9 x10 => by
    rw [ex_set, hright]
    rfl
  have sr : callN defs f i__law_same [.tup [.ref M1.length, .bl (!decide (y < G))], .tup [.lst (KS.map fun i => .int (i : Nat)), .bl (!decide (y < G))]] (M1 ++ [.lst (KS.map fun i => .int (i : Nat))]) = some (.bl true, M1 ++ [.lst (KS.map fun i => .int (i : Nat))]) := by
    refine (m_lsame (n := 2) (.inr ⟨[.ref M1.length, .bl (!decide (y < G))], [.lst (KS.map fun i => .int (i : Nat)), .bl (!decide (y < G))], .inl ⟨rfl, rfl⟩, rfl, by simp, fun i a b ha hb => ?_⟩)).at (by omega)
    match i, ha, hb with
    | 0, ha, hb =>
      simp at ha hb
      subst ha hb
      refine .inr ⟨_, _, .inr ⟨.inr ⟨_, rfl, get_last⟩, rfl⟩, rfl, by rw [List.length_map]; exact hks, fun i a b ha hb => ?_⟩
      rw [ha] at hb
      injection hb with hb
      subst hb
      obtain ⟨j, _, rfl⟩ := List.mem_map.mp (List.mem_of_getElem? ha)
      exact vw_int
    | 1, ha, hb =>
      simp at ha hb
      subst ha hb
      exact vw_bl
  have s11 : ∀ x6 x7 x9 x10, exS (callN defs f) (.ite (.not (.call 45 (.cons (.var 11) (.cons (.var 8) .nil)))) (.seq (.ret (.con (.bl false))) .nil) .nil) [some d, some (fr y), some (.int t), some (.ref M.length), some (fr (em (cs.map cap) y)), some (.lst rws), x6, x7, some (.tup [.lst (KS.map fun i => .int (i : Nat)), .bl (!decide (y < G))]), x9, x10, some (.tup [.ref M1.length, .bl (!decide (y < G))]), none] (M1 ++ [.lst (KS.map fun i => .int (i : Nat))])
      = some (.nx, [some d, some (fr y), some (.int t), some (.ref M.length), some (fr (em (cs.map cap) y)), some (.lst rws), x6, x7, some (.tup [.lst (KS.map fun i => .int (i : Nat)), .bl (!decide (y < G))]), x9, x10, some (.tup [.ref M1.length, .bl (!decide (y < G))]), none], M1 ++ [.lst (KS.map fun i => .int (i : Nat))]) := fun x6 x7 x9 x10 => by
    simp only [ex_ite, et_not, et_call, ev_call, es_cons, es_nil, ev_var, lk_zero, lk_succ, Option.bind_some, kCs1_ap, kCs2_ap, kCall_ap]
    rw [sr]
    rfl
  have s12 : ∀ x6 x7 x8 x9 x10, exS (callN defs f) (.expr (.mth .append false (.idx (.var 11) (.con (.int 0))) (.cons (.con (.str "more")) .nil))) [some d, some (fr y), some (.int t), some (.ref M.length), some (fr (em (cs.map cap) y)), some (.lst rws), x6, x7, x8, x9, x10, some (.tup [.ref M1.length, .bl (!decide (y < G))]), none] (M1 ++ [.lst (KS.map fun i => .int (i : Nat))])
      = some (.nx, [some d, some (fr y), some (.int t), some (.ref M.length), some (fr (em (cs.map cap) y)), some (.lst rws), x6, x7, x8, x9, x10, some (.tup [.ref M1.length, .bl (!decide (y < G))]), none], M1 ++ [.lst ((KS.map fun i => .int (i : Nat)) ++ [.str "more"])]) := fun x6 x7 x8 x9 x10 => by
    simp only [ex_expr, ev_mth, ev_idx, ev_var, ev_con, lk_zero, lk_succ, Option.bind_some, kIx1_ap, kIx2_ap, ix_tup, at_0, Option.map_some, kMt1_ap, mo_app, if_true, es_cons, es_nil, kCs1_ap, kCs2_ap, kMt2_ap]
    rw [app_last (by rw [List.length_map]; exact Nat.lt_of_le_of_lt hks (by decide))]
    rfl
  have e1 : (cs.map fun c => boxD (cap c)) = (cs.map cap).map boxD := by rw [List.map_map]; rfl
  have hgd := fun M => (pu_greatest_draw hbs hcx hcne w3 w4).at M (k := f) (by omega)
  have hdb := fun M => (pu_drawn_beside (gr_bx hcx hcne w1 w2') hgL (hy.mono hn) (by decide) hglen).at M (k := f) (by omega)
  rw [drawn_gr hcne w1 w2'] at hdb
  have s13 : ∀ x6 x7 x8 x9 x10 x11, exS (callN defs f) (.ret (.call 45 (.cons (.call 19 (.cons (.call 23 (.cons (.comp false (.nm 12) [12] (.iseq (.var 0)) .yes (.call 32 (.cons (.var 12) .nil))) .nil)) (.cons (.var 1) .nil))) (.cons (.var 4) .nil)))) [some d, some (fr y), some (.int t), some (.ref M.length), some (fr (em (cs.map cap) y)), some (.lst rws), x6, x7, x8, x9, x10, x11, none] (M1 ++ [.lst ((KS.map fun i => .int (i : Nat)) ++ [.str "more"])])
      = some (.rt (.bl true), [some d, some (fr y), some (.int t), some (.ref M.length), some (fr (em (cs.map cap) y)), some (.lst rws), x6, x7, x8, x9, x10, x11, none], M1 ++ [.lst ((KS.map fun i => .int (i : Nat)) ++ [.str "more"])]) := fun x6 x7 x8 x9 x10 x11 => by
    simp only [ex_ret, ev_call, es_cons, ev_comp, ei_seq, ev_var, lk_zero, Option.bind_some, kSeq_ap, hit2, Option.map_some, kCo_ap]
    rw [comp_yes cosD (fun c => boxD (cap c)) cs hchk2 fun c hc => by
      simp only [wipeD, List.set, asg_nm, Option.bind_some, ev_call, es_cons, es_nil, ev_var, lk_zero, lk_succ, kCs1_ap, kCs2_ap, kCall_ap]
      exact (pu_capped (h c hc)).at _ (by omega), e1]
    simp only [Option.bind_some, kNew_ap, new_f (show ((cs.map cap).map boxD).length ≤ lim by rw [List.length_map, List.length_map]; exact lim64 (by omega)), kCs1_ap, es_nil, kCs2_ap, kCall_ap]
    rw [hgd]
    simp only [Option.bind_some, kCs1_ap, es_cons, es_nil, ev_var, lk_zero, lk_succ, kCs2_ap, kCall_ap]
    rw [hdb]
    simp only [Option.bind_some, kCs1_ap, es_cons, es_nil, ev_var, lk_zero, lk_succ, kCs2_ap, kCall_ap]
    rw [(m_lsame (n := 1) vw_fr).at (by omega)]
    rfl
  exact ⟨_, (seq_nx s1).trans <| (seq_nx s2).trans <| (seq_nx s3).trans <| (seq_nx s4).trans <| (seq_nx s5').trans <| (seq_nx (s6 _ _)).trans <| (seq_nx (s7 _ _ _)).trans <| (seq_nx (s8 _ _ _)).trans <| (seq_nx (s9 _ _)).trans <| (seq_nx (s10 _ _ _ _ _)).trans <| (seq_nx (s11 _ _ _ _)).trans <| (seq_nx (s12 _ _ _ _ _)).trans <| seq_rt (s13 _ _ _ _ _ _)⟩
end X

set_option maxRecDepth 100000
namespace X
open DL PySem
theorem LB.mono {k k' : Nat} {b : List Row} (h : LB k b) (hk : k ≤ k') : LB k' b := fun r m => ⟨(h r m).1.mono hk, (h r m).2.mono hk⟩
theorem vw_bx {n : Nat} {M : Mm} {c : Cos} (h : Wf c) : Vw (n + 3) M (boxD (cap c)) (boxD (cap c)) := vw_box (by have := cap_length h; omega)
theorem pu_lsingle {c : Cos} {t : Int} (h : Wf c) : Pu defs 12 i__law_single_right [cosD c, .int t] (.bl true) := by
  refine Pu.mk (df := ⟨2, 5, true, b__law_single_right⟩) rfl ⟨rfl, by decide⟩ fun f M hf => ?_
  have hl : c.2.length ≤ 64 := by have := h.len; omega
  have hR := reserve_L h
  have sm : callN defs f i__law_same [fr (reserve c.1 c.2), fr (reserve c.1 c.2)] M = some (.bl true, M) := (m_lsame (n := 1) vw_fr).at (by omega)
  have sm2 : callN defs f i__law_same [.lst [boxD (cap c), .bl true], .lst [boxD (cap c), .bl true]] M = some (.bl true, M) := (m_lsame (n := 4) (vw_lst (by simp) fun d m => by
    simp at m
    rcases m with rfl | rfl
    · exact vw_bx h
    · exact vw_bl)).at (by omega)
  have hlb := (pu_lbeyond h.bx (LB.mono h.lb (by decide : 1 ≤ 7)) hR (by decide) hl).at M (k := f) (by omega)
  rw [reserve_eq h.bx h.pos] at hlb
  have e1 : evE (callN defs f) (.ite (.cmp .eq (.var 1) (.con (.int 0))) (.call 29 (.cons (.var 0) .nil)) (.callk 29 [0] .nil (.cons (.var 0) .nil))) [some (cosD c), some (.int t), some (fr c.1), some (boxD c.2), some (fr (reserve c.1 c.2))] M = some (fr (reserve c.1 c.2), M) := by
    have hr := (pu_reserve h).at M (k := f) (by omega)
    by_cases ht : t = 0
    · simp only [ev_ite, et_cmp, ev_var, ev_con, lk_zero, lk_succ, Option.bind_some, kCmp1_ap, kCmp2_ap, sc_eqi, decide_eq_true ht, Option.map_some, kIte_t, ev_call, es_cons, es_nil, kCs1_ap, kCs2_ap, kCall_ap]
      exact hr
    · simp only [ev_ite, et_cmp, ev_var, ev_con, lk_zero, lk_succ, Option.bind_some, kCmp1_ap, kCmp2_ap, sc_eqi, decide_eq_false ht, Option.map_some, kIte_f, ev_callk, es_cons, es_nil, kCk1_ap, kCs1_ap, kCs2_ap, kCk2_ap]
      exact hr
  have e2 : evE (callN defs f) (.ite (.cmp .eq (.var 1) (.con (.int 0))) (.call 32 (.cons (.var 0) .nil)) (.callk 32 [0] .nil (.cons (.var 0) .nil))) [some (cosD c), some (.int t), some (fr c.1), some (boxD c.2), some (fr (reserve c.1 c.2))] M = some (boxD (cap c), M) := by
    have hr := (pu_capped h).at M (k := f) (by omega)
    by_cases ht : t = 0
    · simp only [ev_ite, et_cmp, ev_var, ev_con, lk_zero, lk_succ, Option.bind_some, kCmp1_ap, kCmp2_ap, sc_eqi, decide_eq_true ht, Option.map_some, kIte_t, ev_call, es_cons, es_nil, kCs1_ap, kCs2_ap, kCall_ap]
      exact hr
    · simp only [ev_ite, et_cmp, ev_var, ev_con, lk_zero, lk_succ, Option.bind_some, kCmp1_ap, kCmp2_ap, sc_eqi, decide_eq_false ht, Option.map_some, kIte_f, ev_callk, es_cons, es_nil, kCk1_ap, kCs1_ap, kCs2_ap, kCk2_ap]
      exact hr
  have s1 : exS (callN defs f) (.set (.cons (.nm 2) (.cons (.nm 3) .nil)) (.var 0)) [some (cosD c), some (.int t), none, none, none] M = some (.nx, [some (cosD c), some (.int t), some (fr c.1), some (boxD c.2), none], M) := rfl
  have s2 : exS (callN defs f) (.set (.nm 4) (.call 57 (.cons (.var 0) .nil))) [some (cosD c), some (.int t), some (fr c.1), some (boxD c.2), none] M = some (.nx, [some (cosD c), some (.int t), some (fr c.1), some (boxD c.2), some (fr (reserve c.1 c.2))], M) := by
    simp only [ex_set, ev_call, es_cons, es_nil, ev_var, lk_zero, lk_succ, Option.bind_some, kCs1_ap, kCs2_ap, kCall_ap]
    rw [(pu_lreserve h).at _ (by omega)]
    rfl
  have s3 : exS (callN defs f) (.ite (.or (.cmp .ne (.call 56 (.cons (.var 3) (.cons (.var 4) .nil))) (.var 2)) (.one (.not (.call 45 (.cons (.ite (.cmp .eq (.var 1) (.con (.int 0))) (.call 29 (.cons (.var 0) .nil)) (.callk 29 [0] .nil (.cons (.var 0) .nil))) (.cons (.var 4) .nil)))))) (.seq (.ret (.con (.bl false))) .nil) .nil) [some (cosD c), some (.int t), some (fr c.1), some (boxD c.2), some (fr (reserve c.1 c.2))] M = some (.nx, [some (cosD c), some (.int t), some (fr c.1), some (boxD c.2), some (fr (reserve c.1 c.2))], M) := by
    simp only [ex_ite, et_or, et_cmp, ev_call, es_cons, es_nil, ev_var, lk_zero, lk_succ, Option.bind_some, kCs1_ap, kCs2_ap, kCall_ap]
    rw [hlb]
    simp only [Option.bind_some, kCmp1_ap, ev_var, lk_zero, lk_succ, kCmp2_ap, sc_nef, decide_true, Bool.not_true, Option.map_some, kOrT_f, et_one, et_not, et_call, ev_call, es_cons, e1, kCs1_ap, es_nil, kCs2_ap, kCall_ap]
    rw [sm]
    rfl
  have s4 : exS (callN defs f) (.ret (.call 45 (.cons (.lis false (.cons (.ite (.cmp .eq (.var 1) (.con (.int 0))) (.call 32 (.cons (.var 0) .nil)) (.callk 32 [0] .nil (.cons (.var 0) .nil))) (.cons (.call 25 (.cons (.var 0) .nil)) .nil))) (.cons (.lis false (.cons (.call 58 (.cons (.var 0) .nil)) (.cons (.con (.bl true)) .nil))) .nil)))) [some (cosD c), some (.int t), some (fr c.1), some (boxD c.2), some (fr (reserve c.1 c.2))] M = some (.rt (.bl true), [some (cosD c), some (.int t), some (fr c.1), some (boxD c.2), some (fr (reserve c.1 c.2))], M) := by
    simp only [ex_ret, ev_call, es_cons, ev_lis, e2, Option.bind_some, kCs1_ap, es_nil, ev_var, lk_zero, lk_succ, kCs2_ap, kCall_ap]
    rw [(pu_is_costly_box h).at _ (by omega)]
    simp only [Option.bind_some, kCs1_ap, es_nil, kCs2_ap, kLis_ap, new_f (show [boxD (cap c), D.bl true].length ≤ lim from lim2), es_cons, ev_lis, ev_call, ev_var, lk_zero, kCall_ap]
    rw [(pu_lcapped h).at _ (by omega)]
    simp only [Option.bind_some, kCs1_ap, es_cons, ev_con, es_nil, kCs2_ap, kLis_ap, new_f (show [boxD (cap c), D.bl true].length ≤ lim from lim2), kCall_ap]
    rw [sm2]
    rfl
  exact ⟨_, (seq_nx s1).trans <| (seq_nx s2).trans <| (seq_nx s3).trans <| seq_rt s4⟩
/-! ### the law's greatest fall -/
section
variable {f n : Nat} {M : Mm} {env : En} {e1 e1' e2 : E} {cs cs' : List Cos} {y : Rat}
theorem open_at (h1 : ∀ M', evE (callN defs f) e1 env M' = some (.lst (cs.map cosD), M')) (h2 : ∀ M', evE (callN defs f) e2 env M' = some (fr y, M')) (h : ∀ c ∈ cs, Wf c) (hl : cs.length ≤ 3) (hy : L n y) (hn : n ≤ 65) (hn7 : 7 ≤ n) (hf : 5 ≤ f) :
    ∃ kv, evE (callN defs f) (.idx (.call 59 (.cons e1 (.cons e2 .nil))) (.tup (.cons (.con (.int 0)) (.cons e2 .nil)))) env M = some (fr (em (cs.map cap) y), M ++ [.dic kv]) := by
  obtain ⟨kv, hop, hT⟩ := m_lopened (M := M) (.inl rfl) h hl hy hn hn7 f hf
  refine ⟨kv, ?_⟩
  have hix : semIx (M ++ [.dic kv]) (.ref M.length) (.tup [.int 0, fr y]) = some (fr (em (cs.map cap) y)) := by
    rw [ix_dic key_mk]
    have := hT 0 y (Nat.two_pow_pos _) marks_self trivial
    rw [rem_zero] at this
    exact this
  simp only [ev_idx, ev_call, es_cons, h1, h2, es_nil, Option.bind_some, kCs1_ap, kCs2_ap, kCall_ap]
  rw [hop]
  simp only [Option.bind_some, kIx1_ap, ev_tup, es_cons, ev_con, h2, es_nil, kCs1_ap, kCs2_ap, kTup_ap, List.length_cons, List.length_nil, Nat.zero_add, Nat.reduceAdd, lim2, if_true, kIx2_ap, hix, Option.map_some]
theorem open_diff (h1 : ∀ M', evE (callN defs f) e1 env M' = some (.lst (cs.map cosD), M')) (h1' : ∀ M', evE (callN defs f) e1' env M' = some (.lst (cs'.map cosD), M')) (h2 : ∀ M', evE (callN defs f) e2 env M' = some (fr y, M')) (h : ∀ c ∈ cs, Wf c) (h' : ∀ c ∈ cs', Wf c) (hl : cs.length ≤ 3) (hl' : cs'.length ≤ 3) (hy : L n y) (hn : n ≤ 65) (hn7 : 7 ≤ n) (hf : 5 ≤ f) :
    ∃ X, X ≠ [] ∧ evE (callN defs f) (.call 48 (.cons (.idx (.call 59 (.cons e1 (.cons e2 .nil))) (.tup (.cons (.con (.int 0)) (.cons e2 .nil)))) (.cons (.idx (.call 59 (.cons e1' (.cons e2 .nil))) (.tup (.cons (.con (.int 0)) (.cons e2 .nil)))) .nil))) env M = some (fr (em (cs.map cap) y - em (cs'.map cap) y), M ++ X) := by
  obtain ⟨kv, o1⟩ := open_at (M := M) h1 h2 h hl hy hn hn7 hf
  obtain ⟨kv', o2⟩ := open_at (M := M ++ [.dic kv]) h1' h2 h' hl' hy hn hn7 hf
  refine ⟨[.dic kv] ++ [.dic kv'], by simp, ?_⟩
  have l1 : L (9 + n) (em (cs.map cap) y) := (em_L h hy hn7).mono (by omega)
  have l2 : L (9 + n) (em (cs'.map cap) y) := (em_L h' hy hn7).mono (by omega)
  rw [ev_call, es_cons, o1]
  simp only [Option.bind_some, kCs1_ap]
  rw [es_cons, o2]
  simp only [Option.bind_some, kCs1_ap, es_nil, kCs2_ap, kCall_ap]
  rw [(pu_lminus (l1.ok (by omega)) (l2.ok (by omega))).at _ (by omega), List.append_assoc]
end
theorem gts_eq {xs : List Rat} {v : Rat} (h : v ∈ xs) (hm : ∀ x ∈ xs, x ≤ v) : gts xs = v := by
  obtain ⟨h1, h2⟩ := gts_props (List.ne_nil_of_mem h)
  exact Rat.le_antisymm (hm _ h1) (h2 _ h)
theorem add_tup {M : Mm} {u v : List D} (h : u ≠ []) (hl : u.length + v.length ≤ lim) : semO false M .add (.tup u) (.tup v) = some (.tup (u ++ v), M) := by
  simp [semO, h, hl]
end X

set_option maxRecDepth 100000
namespace X
open DL PySem
section
variable {n f : Nat} {p q : Cos} {os : List Cos} {v o : Rat} {t : Int}
/-- one offer of the harm's list -/
theorem harm_off (hp : Wf p) (hq : Wf q) (ho : ∀ c ∈ os, Wf c) (hl : os.length ≤ 2) (hH : Harm (cap p) (cap q) v o) (hv : L 16 v)
    (h4 : Pu defs 8 i_opening_harm_of [cosD p, cosD q] (.tup [fr v, fr o])) (hn : n ≤ 65) (hn7 : 7 ≤ n) (hf : 12 ≤ f) (x0 x4 x5 x8 x10 x14 x15 x16 : Option D) :
    ∀ (ys : List Rat) (M : Mm) (x11 x12 x13 : Option D), (∀ y ∈ ys, L n y) → ∃ X x11' x12' x13', forGo (exS (callN defs f) (.seq (.set (.nm 12) (.call 48 (.cons (.idx (.call 59 (.cons (.op .add false (.lis false (.cons (.var 1) .nil)) (.var 3)) (.cons (.var 11) .nil))) (.tup (.cons (.con (.int 0)) (.cons (.var 11) .nil)))) (.cons (.idx (.call 59 (.cons (.op .add false (.lis false (.cons (.var 2) .nil)) (.var 3)) (.cons (.var 11) .nil))) (.tup (.cons (.con (.int 0)) (.cons (.var 11) .nil)))) .nil)))) (.seq (.ite (.or (.call 51 (.cons (.var 9) (.cons (.var 12) .nil))) (.one (.cmp .ne (.var 12) (.call 48 (.cons (.call 35 (.cons (.op .add false (.lis false (.cons (.var 1) .nil)) (.var 3)) (.cons (.var 11) .nil))) (.cons (.call 35 (.cons (.op .add false (.lis false (.cons (.var 2) .nil)) (.var 3)) (.cons (.var 11) .nil))) .nil)))))) (.seq (.ret (.con (.bl false))) .nil) .nil) (.seq (.set (.nm 13) (.call 48 (.cons (.call 55 (.cons (.var 6) (.cons (.var 11) .nil))) (.cons (.call 55 (.cons (.var 7) (.cons (.var 11) .nil))) .nil)))) (.seq (.ite (.not (.call 45 (.cons (.callk 41 [2, 1, 0] .nil (.cons (.tup (.cons (.var 9) (.cons (.var 11) .nil))) (.cons (.var 2) (.cons (.var 1) .nil)))) (.cons (.cmp .eq (.var 13) (.var 9)) .nil)))) (.seq (.ret (.con (.bl false))) .nil) .nil) .nil))))) (.nm 11) [] (ys.map fr)
        [x0, some (cosD p), some (cosD q), some (.lst (os.map cosD)), x4, x5, some (boxD (cap p)), some (boxD (cap q)), x8, some (fr v), x10, x11, x12, x13, x14, x15, x16] M
      = some (.nx, [x0, some (cosD p), some (cosD q), some (.lst (os.map cosD)), x4, x5, some (boxD (cap p)), some (boxD (cap q)), x8, some (fr v), x10, x11', x12', x13', x14, x15, x16], M ++ X) := by
  intro ys
  induction ys with
  | nil => intro M x11 x12 x13 _; exact ⟨[], x11, x12, x13, by simp⟩
  | cons y ys ih =>
    intro M x11 x12 x13 hy
    have hy1 := hy y List.mem_cons_self
    have hP : ∀ c ∈ p :: os, Wf c := fun c m => (List.mem_cons.mp m).elim (fun e => by rw [e]; exact hp) (ho c)
    have hQ : ∀ c ∈ q :: os, Wf c := fun c m => (List.mem_cons.mp m).elim (fun e => by rw [e]; exact hq) (ho c)
    have ll : ∀ (c : Cos), ([cosD c] : List D).length + (os.map cosD).length ≤ lim := fun c => by rw [List.length_map]; exact lim64 (by simp; omega)
    have eadd : ∀ (c : Cos) (i : Nat) (env : En) (M' : Mm), lk env i M' = some (cosD c, M') → lk env 3 M' = some (.lst (os.map cosD), M') → evE (callN defs f) (.op .add false (.lis false (.cons (.var i) .nil)) (.var 3)) env M' = some (.lst ((c :: os).map cosD), M') := fun c i env M' h1 h2 => by
      simp only [ev_op, ev_lis, es_cons, es_nil, ev_var, h1, Option.bind_some, kCs1_ap, kCs2_ap, kLis_ap, new_f (show [cosD c].length ≤ lim from lim1), kOp1_ap, h2, kOp2_ap, add_lst (ll c)]
      rfl
    obtain ⟨X1, hX1, eX1⟩ := open_diff (f := f) (M := M) (env := [x0, some (cosD p), some (cosD q), some (.lst (os.map cosD)), x4, x5, some (boxD (cap p)), some (boxD (cap q)), x8, some (fr v), x10, some (fr y), x12, x13, x14, x15, x16])
      (e1 := .op .add false (.lis false (.cons (.var 1) .nil)) (.var 3)) (e1' := .op .add false (.lis false (.cons (.var 2) .nil)) (.var 3)) (e2 := .var 11) (cs := p :: os) (cs' := q :: os) (fun M' => eadd p 1 _ M' rfl rfl) (fun M' => eadd q 2 _ M' rfl rfl) (fun M' => rfl) hP hQ (by simp; omega) (by simp; omega) hy1 hn hn7 (by omega)
    have l1 : L (9 + n) (em ((p :: os).map cap) y) := (em_L hP hy1 hn7).mono (by simp; omega)
    have l2 : L (9 + n) (em ((q :: os).map cap) y) := (em_L hQ hy1 hn7).mono (by simp; omega)
    have lf : L (10 + n) (em ((p :: os).map cap) y - em ((q :: os).map cap) y) := (l1.sub l2).mono (by omega)
    have hle : em ((p :: os).map cap) y - em ((q :: os).map cap) y ≤ v := em_fall (caps_bx ho) (fall_le hp.cap hq.cap hH.max)
    have nlt : ¬ v < em ((p :: os).map cap) y - em ((q :: os).map cap) y := Rat.not_lt.mpr hle
    have lp := LB.mono (cap_L hp) hn7
    have lq := LB.mono (cap_L hq) hn7
    have np : (cap p).length ≤ 64 := by have := cap_length hp; omega
    have nq : (cap q).length ≤ 64 := by have := cap_length hq; omega
    generalize hF : em ((p :: os).map cap) y - em ((q :: os).map cap) y = F at eX1 lf hle nlt
    obtain ⟨X, z11, z12, z13, e⟩ := ih (M ++ X1) (some (fr y)) (some (fr F)) (some (fr (fall (cap p) (cap q) y))) fun z m => hy z (List.mem_cons_of_mem _ m)
    refine ⟨X1 ++ X, z11, z12, z13, ?_⟩
    rw [← List.append_assoc, List.map_cons, for_cons, ← e]
    simp only [asg_nm, Option.bind_some, kTurn_ap, List.set]
    generalize hM1 : M ++ X1 = M1 at eX1
    have s1 : exS (callN defs f) (.set (.nm 12) (.call 48 (.cons (.idx (.call 59 (.cons (.op .add false (.lis false (.cons (.var 1) .nil)) (.var 3)) (.cons (.var 11) .nil))) (.tup (.cons (.con (.int 0)) (.cons (.var 11) .nil)))) (.cons (.idx (.call 59 (.cons (.op .add false (.lis false (.cons (.var 2) .nil)) (.var 3)) (.cons (.var 11) .nil))) (.tup (.cons (.con (.int 0)) (.cons (.var 11) .nil)))) .nil)))) [x0, some (cosD p), some (cosD q), some (.lst (os.map cosD)), x4, x5, some (boxD (cap p)), some (boxD (cap q)), x8, some (fr v), x10, some (fr y), x12, x13, x14, x15, x16] M
        = some (.nx, [x0, some (cosD p), some (cosD q), some (.lst (os.map cosD)), x4, x5, some (boxD (cap p)), some (boxD (cap q)), x8, some (fr v), x10, some (fr y), some (fr F), x13, x14, x15, x16], M1) := by
      rw [ex_set, eX1]; rfl
    have s2 : exS (callN defs f) (.ite (.or (.call 51 (.cons (.var 9) (.cons (.var 12) .nil))) (.one (.cmp .ne (.var 12) (.call 48 (.cons (.call 35 (.cons (.op .add false (.lis false (.cons (.var 1) .nil)) (.var 3)) (.cons (.var 11) .nil))) (.cons (.call 35 (.cons (.op .add false (.lis false (.cons (.var 2) .nil)) (.var 3)) (.cons (.var 11) .nil))) .nil)))))) (.seq (.ret (.con (.bl false))) .nil) .nil) [x0, some (cosD p), some (cosD q), some (.lst (os.map cosD)), x4, x5, some (boxD (cap p)), some (boxD (cap q)), x8, some (fr v), x10, some (fr y), some (fr F), x13, x14, x15, x16] M1
        = some (.nx, [x0, some (cosD p), some (cosD q), some (.lst (os.map cosD)), x4, x5, some (boxD (cap p)), some (boxD (cap q)), x8, some (fr v), x10, some (fr y), some (fr F), x13, x14, x15, x16], M1) := by
      simp only [ex_ite, et_or, et_call, ev_call, es_cons, es_nil, ev_var, lk_zero, lk_succ, Option.bind_some, kCs1_ap, kCs2_ap, kCall_ap]
      rw [(pu_lless (hv.ok (by omega)) (lf.ok (by omega))).at _ (by omega)]
      simp only [Option.bind_some, kTr_ap, tr_bl, Option.map_some, decide_eq_false nlt, kOrT_f, et_one, et_cmp, ev_var, lk_zero, lk_succ, kCmp1_ap]
      rw [ev_call, es_cons, ev_call, es_cons, eadd p 1 _ _ rfl rfl]
      simp only [Option.bind_some, kCs1_ap, es_cons, es_nil, ev_var, lk_zero, lk_succ, kCs2_ap, kCall_ap]
      rw [(m_opening_worth Sq.lst hP (by simp) (by simp; omega) hy1 hn).at (by omega)]
      simp only [Option.bind_some, kCs1_ap]
      rw [es_cons, ev_call, es_cons, eadd q 2 _ _ rfl rfl]
      simp only [Option.bind_some, kCs1_ap, es_cons, es_nil, ev_var, lk_zero, lk_succ, kCs2_ap, kCall_ap]
      rw [(m_opening_worth Sq.lst hQ (by simp) (by simp; omega) hy1 hn).at (by omega)]
      simp only [Option.bind_some, kCs1_ap, es_nil, kCs2_ap, kCall_ap]
      rw [(pu_lminus (l1.ok (by omega)) (l2.ok (by omega))).at _ (by omega), hF]
      simp only [Option.bind_some, kCmp2_ap, sc_nef, decide_true, Bool.not_true, Option.map_some, kIf_f, DL.ex_nil]
    have s3 : exS (callN defs f) (.set (.nm 13) (.call 48 (.cons (.call 55 (.cons (.var 6) (.cons (.var 11) .nil))) (.cons (.call 55 (.cons (.var 7) (.cons (.var 11) .nil))) .nil)))) [x0, some (cosD p), some (cosD q), some (.lst (os.map cosD)), x4, x5, some (boxD (cap p)), some (boxD (cap q)), x8, some (fr v), x10, some (fr y), some (fr F), x13, x14, x15, x16] M1
        = some (.nx, [x0, some (cosD p), some (cosD q), some (.lst (os.map cosD)), x4, x5, some (boxD (cap p)), some (boxD (cap q)), x8, some (fr v), x10, some (fr y), some (fr F), some (fr (fall (cap p) (cap q) y)), x14, x15, x16], M1) := by
      simp only [ex_set, ev_call, es_cons, es_nil, ev_var, lk_zero, lk_succ, Option.bind_some, kCs1_ap, kCs2_ap, kCall_ap]
      rw [(pu_ldrawn lp hy1 (by omega) np).at _ (by omega)]
      simp only [Option.bind_some, kCs1_ap, es_cons, es_nil, ev_call, ev_var, lk_zero, lk_succ, kCs2_ap, kCall_ap]
      rw [(pu_ldrawn lq hy1 (by omega) nq).at _ (by omega)]
      simp only [Option.bind_some, kCs1_ap, es_nil, kCs2_ap, kCall_ap]
      rw [(pu_lminus ((drawn_L lp hy1 np).ok (by omega)) ((drawn_L lq hy1 nq).ok (by omega))).at _ (by omega)]
      rfl
    have s4 : exS (callN defs f) (.ite (.not (.call 45 (.cons (.callk 41 [2, 1, 0] .nil (.cons (.tup (.cons (.var 9) (.cons (.var 11) .nil))) (.cons (.var 2) (.cons (.var 1) .nil)))) (.cons (.cmp .eq (.var 13) (.var 9)) .nil)))) (.seq (.ret (.con (.bl false))) .nil) .nil) [x0, some (cosD p), some (cosD q), some (.lst (os.map cosD)), x4, x5, some (boxD (cap p)), some (boxD (cap q)), x8, some (fr v), x10, some (fr y), some (fr F), some (fr (fall (cap p) (cap q) y)), x14, x15, x16] M1
        = some (.nx, [x0, some (cosD p), some (cosD q), some (.lst (os.map cosD)), x4, x5, some (boxD (cap p)), some (boxD (cap q)), x8, some (fr v), x10, some (fr y), some (fr F), some (fr (fall (cap p) (cap q) y)), x14, x15, x16], M1) := by
      have hih : callN defs f i_is_opening_harm [cosD p, cosD q, .tup [fr v, fr y]] M1 = some (.bl (decide (v = v ∧ v = fall (cap p) (cap q) y)), M1) := (pu_is_opening_harm hp hq h4 hy1 hn hn7).at M1 (by omega)
      have hdd : decide (fall (cap p) (cap q) y = v) = decide (v = v ∧ v = fall (cap p) (cap q) y) := decide_eq_decide.mpr ⟨fun e => ⟨rfl, e.symm⟩, fun e => e.2.symm⟩
      simp only [ex_ite, et_not, et_call, ev_call, es_cons, es_nil, ev_callk, ev_tup, ev_var, lk_zero, lk_succ, Option.bind_some, kCk1_ap, kCs1_ap, kCs2_ap, kTup_ap, List.length_cons, List.length_nil, Nat.zero_add, Nat.reduceAdd, lim2, if_true, kCk2_ap]
      rw [show ([2, 1, 0].map fun j => (([] : List D) ++ [.tup [fr v, fr y], cosD q, cosD p]).getD j .non) = [cosD p, cosD q, .tup [fr v, fr y]] from rfl]
      rw [show (41 : Nat) = i_is_opening_harm from rfl, hih]
      simp only [Option.bind_some, kCs1_ap, es_cons, es_nil, ev_cmp, et_cmp, ev_var, lk_zero, lk_succ, kCmp1_ap, kCmp2_ap, sc_eqf, Option.map_some, kBl_ap, hdd, kCs2_ap, kCall_ap]
      rw [(m_lsame (n := 0) vw_bl).at (by omega)]
      rfl
    rw [(seq_nx s1).trans <| (seq_nx s2).trans <| (seq_nx s3).trans <| (seq_nx s4).trans DL.ex_nil]
    rfl
end
end X

set_option maxRecDepth 100000
namespace X
open DL PySem
theorem third : (D.tup [.int 1, .int 3]) = fr (1 / 3) := by decide +kernel
theorem worths_two {a b : List Row} : worths [a, b] = a.map (·.1) ++ b.map (·.1) := by simp [worths]
theorem m_lharm {n : Nat} {M : Mm} {p q : Cos} {os : List Cos} {ys : List Rat} {t : Int} {x0 : D} (hp : Wf p) (hq : Wf q) (ho : ∀ c ∈ os, Wf c) (hl : os.length ≤ 2) (hy : ∀ y ∈ ys, L n y) (hn : n ≤ 65) (hn7 : 7 ≤ n) :
    PuM defs 14 i__law_harm_right [x0, cosD p, cosD q, .lst (os.map cosD), .lst (ys.map fr), .int t] M (.bl true) := by
  refine PuM.mkF (df := ⟨6, 17, true, b__law_harm_right⟩) rfl ⟨rfl, by decide⟩ rfl fun f hf => ?_
  obtain ⟨v, o, hH, hv, ho7, h9, h8⟩ := pu_opening_harm hp hq
  have lp := cap_L hp
  have lq := cap_L hq
  have np : (cap p).length ≤ 64 := by have := cap_length hp; omega
  have nq : (cap q).length ≤ 64 := by have := cap_length hq; omega
  have hwl := worths2_len hp hq
  have hwL := worths2_L hp hq
  -- 1
  have s1 : exS (callN defs f) (.set (.cons (.nm 6) (.cons (.nm 7) .nil)) (.tup (.cons (.call 58 (.cons (.var 1) .nil)) (.cons (.call 58 (.cons (.var 2) .nil)) .nil)))) [some x0, some (cosD p), some (cosD q), some (.lst (os.map cosD)), some (.lst (ys.map fr)), some (.int t), none, none, none, none, none, none, none, none, none, none, none] M
      = some (.nx, [some x0, some (cosD p), some (cosD q), some (.lst (os.map cosD)), some (.lst (ys.map fr)), some (.int t), some (boxD (cap p)), some (boxD (cap q)), none, none, none, none, none, none, none, none, none], M) := by
    simp only [ex_set, ev_tup, es_cons, ev_call, es_nil, ev_var, lk_zero, lk_succ, Option.bind_some, kCs1_ap, kCs2_ap, kCall_ap]
    rw [(pu_lcapped hp).at _ (by omega)]
    simp only [Option.bind_some, kCs1_ap, es_cons, ev_call, es_nil, ev_var, lk_zero, lk_succ, kCs2_ap, kCall_ap]
    rw [(pu_lcapped hq).at _ (by omega)]
    rfl
  have hadd : semO false M .add (boxD (cap p)) (boxD (cap q)) = some (.tup ((cap p ++ cap q).map rowD), M) := by
    rw [List.map_append]
    exact add_tup (by simpa using hp.cap.ne) (by rw [List.length_map, List.length_map]; exact lim_big (by omega))
  have s2 : exS (callN defs f) (.setc 8 (.comp false (.cons (.nm 14) (.cons (.nm 15) .nil)) [14, 15] (.iseq (.op .add false (.var 6) (.var 7))) .yes (.var 14))) [some x0, some (cosD p), some (cosD q), some (.lst (os.map cosD)), some (.lst (ys.map fr)), some (.int t), some (boxD (cap p)), some (boxD (cap q)), none, none, none, none, none, none, none, none, none] M
      = some (.nx, [some x0, some (cosD p), some (cosD q), some (.lst (os.map cosD)), some (.lst (ys.map fr)), some (.int t), some (boxD (cap p)), some (boxD (cap q)), some (.lst ((worths [cap p, cap q]).map fr)), none, none, none, none, none, none, none, none], M) := by
    simp only [ex_setc, ev_comp, ei_seq, ev_op, ev_var, lk_zero, lk_succ, Option.bind_some, kOp1_ap, kOp2_ap, hadd, kSeq_ap, it_tup, Option.map_some, kCo_ap]
    rw [comp_yes rowD (fun r => fr r.1) (cap p ++ cap q) rfl fun r hr => by
      simp [rowD, wipeD]]
    rw [show ((cap p ++ cap q).map fun r => fr r.1) = (worths [cap p, cap q]).map fr by rw [worths_two, List.map_append, List.map_append, List.map_map, List.map_map]; rfl]
    simp only [Option.bind_some, kNew_ap, new_f (show ((worths [cap p, cap q]).map fr).length ≤ lim by rw [List.length_map]; exact lim64 hwl), kSetc_ap, List.set]
  have hfl : ∀ x ∈ (worths [cap p, cap q]).map (fall (cap p) (cap q)), L 16 x := fun x m => by
    obtain ⟨w, hw, rfl⟩ := List.mem_map.mp m
    exact (fall_L lp lq (hwL w hw) np nq).mono (by decide)
  have hfn : ((worths [cap p, cap q]).map (fall (cap p) (cap q))).length ≤ 60 := by
    rw [List.length_map, worths_two, List.length_append, List.length_map, List.length_map]
    have := cap_length hp
    have := cap_length hq
    omega
  have hvm : v ∈ (worths [cap p, cap q]).map (fall (cap p) (cap q)) := List.mem_map.mpr ⟨o, hH.mem, hH.at_.symm⟩
  have hgt : gts ((worths [cap p, cap q]).map (fall (cap p) (cap q))) = v := gts_eq hvm fun x m => by
    obtain ⟨w, hw, rfl⟩ := List.mem_map.mp m
    exact hH.max w hw
  have hord := (pu_lin_order hfl (by decide) hfn).at M (k := f) (by omega)
  have hlast : L2.atI ((inOrder ((worths [cap p, cap q]).map (fall (cap p) (cap q)))).map fr) (-1) = some (fr v) := by
    have hn0 : inOrder ((worths [cap p, cap q]).map (fall (cap p) (cap q))) ≠ [] := List.ne_nil_of_mem (((inOrder_props _).2.1 _).mpr hvm)
    rw [at_neg (by simpa using hn0), last_fr hn0, last_order (List.ne_nil_of_mem hvm), hgt]
  have s3 : exS (callN defs f) (.set (.nm 9) (.idx (.call 53 (.cons (.comp false (.nm 16) [16] (.iseq (.var 8)) .yes (.call 48 (.cons (.call 55 (.cons (.var 6) (.cons (.var 16) .nil))) (.cons (.call 55 (.cons (.var 7) (.cons (.var 16) .nil))) .nil)))) .nil)) (.neg (.con (.int 1))))) [some x0, some (cosD p), some (cosD q), some (.lst (os.map cosD)), some (.lst (ys.map fr)), some (.int t), some (boxD (cap p)), some (boxD (cap q)), some (.lst ((worths [cap p, cap q]).map fr)), none, none, none, none, none, none, none, none] M
      = some (.nx, [some x0, some (cosD p), some (cosD q), some (.lst (os.map cosD)), some (.lst (ys.map fr)), some (.int t), some (boxD (cap p)), some (boxD (cap q)), some (.lst ((worths [cap p, cap q]).map fr)), some (fr v), none, none, none, none, none, none, none], M) := by
    simp only [ex_set, ev_idx, ev_call, es_cons, ev_comp, ei_seq, ev_var, lk_zero, lk_succ, Option.bind_some, kSeq_ap, it_lst, Option.map_some, kCo_ap]
    rw [comp_yes fr (fun w => fr (fall (cap p) (cap q) w)) (worths [cap p, cap q]) rfl fun w hw => by
      simp only [wipeD, List.set, asg_nm, Option.bind_some, ev_call, es_cons, es_nil, ev_var, lk_zero, lk_succ, kCs1_ap, kCs2_ap, kCall_ap]
      rw [(pu_ldrawn lp (hwL w hw) (by decide) np).at _ (by omega)]
      simp only [Option.bind_some, kCs1_ap, es_cons, ev_call, es_nil, ev_var, lk_zero, lk_succ, kCs2_ap, kCall_ap]
      rw [(pu_ldrawn lq (hwL w hw) (by decide) nq).at _ (by omega)]
      simp only [Option.bind_some, kCs1_ap, es_nil, kCs2_ap, kCall_ap]
      exact (pu_lminus ((drawn_L lp (hwL w hw) np).ok (by omega)) ((drawn_L lq (hwL w hw) nq).ok (by omega))).at _ (by omega)]
    rw [show ((worths [cap p, cap q]).map fun w => fr (fall (cap p) (cap q) w)) = ((worths [cap p, cap q]).map (fall (cap p) (cap q))).map fr by rw [List.map_map]; rfl]
    simp only [Option.bind_some, kNew_ap, new_f (show (((worths [cap p, cap q]).map (fall (cap p) (cap q))).map fr).length ≤ lim by rw [List.length_map]; exact lim64 (by omega)), kCs1_ap, es_nil, kCs2_ap, kCall_ap]
    rw [hord]
    simp only [Option.bind_some, kIx1_ap, ev_neg, ev_con, kNeg_ap, kIx2_ap, ix_lst, hlast, Option.map_some, kSet_ap, asg_nm, List.set]
  have s4 : exS (callN defs f) (.set (.nm 10) (.ite (.cmp .eq (.var 5) (.con (.int 0))) (.call 40 (.cons (.var 1) (.cons (.var 2) .nil))) (.callk 40 [1, 0] .nil (.cons (.var 2) (.cons (.var 1) .nil))))) [some x0, some (cosD p), some (cosD q), some (.lst (os.map cosD)), some (.lst (ys.map fr)), some (.int t), some (boxD (cap p)), some (boxD (cap q)), some (.lst ((worths [cap p, cap q]).map fr)), some (fr v), none, none, none, none, none, none, none] M
      = some (.nx, [some x0, some (cosD p), some (cosD q), some (.lst (os.map cosD)), some (.lst (ys.map fr)), some (.int t), some (boxD (cap p)), some (boxD (cap q)), some (.lst ((worths [cap p, cap q]).map fr)), some (fr v), some (.tup [fr v, fr o]), none, none, none, none, none, none], M) := by
    have hw := h9.at M (k := f) (by omega)
    by_cases ht : t = 0
    · simp only [ex_set, ev_ite, et_cmp, ev_var, ev_con, lk_zero, lk_succ, Option.bind_some, kCmp1_ap, kCmp2_ap, sc_eqi, decide_eq_true ht, Option.map_some, kIte_t, ev_call, es_cons, es_nil, kCs1_ap, kCs2_ap, kCall_ap]
      rw [hw]; rfl
    · simp only [ex_set, ev_ite, et_cmp, ev_var, ev_con, lk_zero, lk_succ, Option.bind_some, kCmp1_ap, kCmp2_ap, sc_eqi, decide_eq_false ht, Option.map_some, kIte_f, ev_callk, es_cons, es_nil, kCk1_ap, kCs1_ap, kCs2_ap, kCk2_ap]
      rw [show ([1, 0].map fun j => (([] : List D) ++ [cosD q, cosD p]).getD j .non) = [cosD p, cosD q] from rfl, hw]; rfl
  have sm : ∀ (a : Rat) M, callN defs f i__law_same [fr a, fr a] M = some (.bl true, M) := fun a M => (m_lsame (n := 1) vw_fr).at (by omega)
  have sb : ∀ (a : Bool) M, callN defs f i__law_same [.bl a, .bl a] M = some (.bl true, M) := fun a M => (m_lsame (n := 0) vw_bl).at (by omega)
  have hih : ∀ (a : Rat) M, callN defs f i_is_opening_harm [cosD p, cosD q, .tup [fr a, fr o]] M = some (.bl (decide (a = v)), M) := fun a M => by
    have := (pu_is_opening_harm (a := a) hp hq h8 ho7 (by decide) (by decide)).at M (k := f) (by omega)
    rw [this]
    have e : decide (a = v ∧ v = fall (cap p) (cap q) o) = decide (a = v) := decide_eq_decide.mpr ⟨fun e => e.1, fun e => ⟨e, hH.at_⟩⟩
    rw [e]
  have hlen : semB .len false [.tup [fr v, fr o]] M = some (.int 2, M) := len_tup (ds := [fr v, fr o]) lim2
  have s5 : exS (callN defs f) (.ite (.or (.not (.isi (.var 10) [.tuple])) (.or (.cmp .ne (.blt .len false (.cons (.var 10) .nil)) (.con (.int 2))) (.or (.not (.call 45 (.cons (.idx (.var 10) (.con (.int 0))) (.cons (.var 9) .nil)))) (.one (.not (.call 45 (.cons (.call 41 (.cons (.var 1) (.cons (.var 2) (.cons (.var 10) .nil)))) (.cons (.con (.bl true)) .nil)))))))) (.seq (.ret (.con (.bl false))) .nil) .nil) [some x0, some (cosD p), some (cosD q), some (.lst (os.map cosD)), some (.lst (ys.map fr)), some (.int t), some (boxD (cap p)), some (boxD (cap q)), some (.lst ((worths [cap p, cap q]).map fr)), some (fr v), some (.tup [fr v, fr o]), none, none, none, none, none, none] M
      = some (.nx, [some x0, some (cosD p), some (cosD q), some (.lst (os.map cosD)), some (.lst (ys.map fr)), some (.int t), some (boxD (cap p)), some (boxD (cap q)), some (.lst ((worths [cap p, cap q]).map fr)), some (fr v), some (.tup [fr v, fr o]), none, none, none, none, none, none], M) := by
    simp only [ex_ite, et_or, et_not, et_isi, ev_var, lk_zero, lk_succ, Option.bind_some, kIsi_ap, isi_t1, Option.map_some, kNotT_ap, Bool.not_true, kOrT_f, et_cmp, ev_blt, es_cons, es_nil, kCs1_ap, kCs2_ap, kBlt_ap, hlen, kCmp1_ap, ev_con, kCmp2_ap, sc_nei, decide_true, et_call, ev_call, ev_idx, kIx1_ap, kIx2_ap, ix_tup, at_0, kCall_ap]
    rw [sm]
    simp only [Option.bind_some, kTr_ap, tr_bl, Option.map_some, kNotT_ap, Bool.not_true, kOrT_f, et_one, et_not, et_call, ev_call, es_cons, es_nil, ev_var, lk_zero, lk_succ, kCs1_ap, kCs2_ap, kCall_ap]
    rw [hih v, decide_eq_true rfl]
    simp only [Option.bind_some, kCs1_ap, es_cons, ev_con, es_nil, kCs2_ap, kCall_ap]
    rw [sb]
    rfl
  obtain ⟨X1, hX1, eX1⟩ := open_diff (f := f) (M := M) (env := [some x0, some (cosD p), some (cosD q), some (.lst (os.map cosD)), some (.lst (ys.map fr)), some (.int t), some (boxD (cap p)), some (boxD (cap q)), some (.lst ((worths [cap p, cap q]).map fr)), some (fr v), some (.tup [fr v, fr o]), none, none, none, none, none, none])
    (e1 := .lis false (.cons (.var 1) .nil)) (e1' := .lis false (.cons (.var 2) .nil)) (e2 := .idx (.var 10) (.con (.int 1))) (cs := [p]) (cs' := [q]) (y := o) (n := 7) (fun M' => rfl) (fun M' => rfl) (fun M' => by
      simp only [ev_idx, ev_var, lk_zero, lk_succ, Option.bind_some, kIx1_ap, ev_con, kIx2_ap, ix_tup, at_1, Option.map_some]) (fun c m => by simp at m; rw [m]; exact hp) (fun c m => by simp at m; rw [m]; exact hq) (by simp) (by simp) ho7 (by decide) (by decide) (by omega)
  have ediff : em ([p].map cap) o - em ([q].map cap) o = v := by
    rw [hH.at_]
    show em [cap p] o - em [cap q] o = drawn (cap p) o - drawn (cap q) o
    rw [em_one, em_one]
  rw [ediff] at eX1
  obtain ⟨X2, y11, y12, y13, e8⟩ := harm_off hp hq ho hl hH hv h8 hn hn7 (show 12 ≤ f by omega) (some x0) (some (.lst (ys.map fr))) (some (.int t)) (some (.lst ((worths [cap p, cap q]).map fr))) (some (.tup [fr v, fr o])) none none none ys (M ++ X1) none none none hy
  have s6 : exS (callN defs f) (.ite (.cmp .ne (.call 48 (.cons (.idx (.call 59 (.cons (.lis false (.cons (.var 1) .nil)) (.cons (.idx (.var 10) (.con (.int 1))) .nil))) (.tup (.cons (.con (.int 0)) (.cons (.idx (.var 10) (.con (.int 1))) .nil)))) (.cons (.idx (.call 59 (.cons (.lis false (.cons (.var 2) .nil)) (.cons (.idx (.var 10) (.con (.int 1))) .nil))) (.tup (.cons (.con (.int 0)) (.cons (.idx (.var 10) (.con (.int 1))) .nil)))) .nil))) (.var 9)) (.seq (.ret (.con (.bl false))) .nil) .nil) [some x0, some (cosD p), some (cosD q), some (.lst (os.map cosD)), some (.lst (ys.map fr)), some (.int t), some (boxD (cap p)), some (boxD (cap q)), some (.lst ((worths [cap p, cap q]).map fr)), some (fr v), some (.tup [fr v, fr o]), none, none, none, none, none, none] M
      = some (.nx, [some x0, some (cosD p), some (cosD q), some (.lst (os.map cosD)), some (.lst (ys.map fr)), some (.int t), some (boxD (cap p)), some (boxD (cap q)), some (.lst ((worths [cap p, cap q]).map fr)), some (fr v), some (.tup [fr v, fr o]), none, none, none, none, none, none], M ++ X1) := by
    rw [ex_ite, et_cmp, eX1]
    simp only [Option.bind_some, kCmp1_ap, ev_var, lk_zero, lk_succ, kCmp2_ap, sc_nef, decide_true, Bool.not_true, Option.map_some, kIf_f, DL.ex_nil]
  generalize hM1 : M ++ X1 = M1 at s6 e8 eX1
  have s7 : exS (callN defs f) (.ite (.not (.call 45 (.cons (.call 41 (.cons (.var 1) (.cons (.var 2) (.cons (.tup (.cons (.call 47 (.cons (.var 9) (.cons (.tup (.cons (.con (.int 1)) (.cons (.con (.int 3)) .nil))) .nil))) (.cons (.idx (.var 10) (.con (.int 1))) .nil))) .nil)))) (.cons (.con (.bl false)) .nil)))) (.seq (.ret (.con (.bl false))) .nil) .nil) [some x0, some (cosD p), some (cosD q), some (.lst (os.map cosD)), some (.lst (ys.map fr)), some (.int t), some (boxD (cap p)), some (boxD (cap q)), some (.lst ((worths [cap p, cap q]).map fr)), some (fr v), some (.tup [fr v, fr o]), none, none, none, none, none, none] M1
      = some (.nx, [some x0, some (cosD p), some (cosD q), some (.lst (os.map cosD)), some (.lst (ys.map fr)), some (.int t), some (boxD (cap p)), some (boxD (cap q)), some (.lst ((worths [cap p, cap q]).map fr)), some (fr v), some (.tup [fr v, fr o]), none, none, none, none, none, none], M1) := by
    have l3 : Ok (1 / 3 : Rat) := ⟨by decide +kernel, by decide +kernel⟩
    simp only [ex_ite, et_not, et_call, ev_call, es_cons, es_nil, ev_tup, ev_con, ev_var, lk_zero, lk_succ, Option.bind_some, kCs1_ap, kCs2_ap, kTup_ap, List.length_cons, List.length_nil, Nat.zero_add, Nat.reduceAdd, lim2, if_true, kCall_ap, third]
    rw [(pu_lplus (hv.ok (by decide)) l3).at _ (by omega)]
    simp only [Option.bind_some, kCs1_ap, es_cons, es_nil, ev_idx, ev_var, ev_con, lk_zero, lk_succ, kIx1_ap, kIx2_ap, ix_tup, at_1, Option.map_some, kCs2_ap, kTup_ap, List.length_cons, List.length_nil, Nat.zero_add, Nat.reduceAdd, lim2, if_true, kCall_ap]
    have hne : ¬ v + 1 / 3 = v := by grind
    rw [hih, decide_eq_false hne]
    simp only [Option.bind_some, kCs1_ap, es_cons, ev_con, es_nil, kCs2_ap, kCall_ap]
    rw [sb]
    rfl
  have s8 : ∀ b, exS (callN defs f) (.for_ (.nm 11) (.iseq (.var 4)) b) [some x0, some (cosD p), some (cosD q), some (.lst (os.map cosD)), some (.lst (ys.map fr)), some (.int t), some (boxD (cap p)), some (boxD (cap q)), some (.lst ((worths [cap p, cap q]).map fr)), some (fr v), some (.tup [fr v, fr o]), none, none, none, none, none, none] M1
      = forGo (exS (callN defs f) b) (.nm 11) [] (ys.map fr) [some x0, some (cosD p), some (cosD q), some (.lst (os.map cosD)), some (.lst (ys.map fr)), some (.int t), some (boxD (cap p)), some (boxD (cap q)), some (.lst ((worths [cap p, cap q]).map fr)), some (fr v), some (.tup [fr v, fr o]), none, none, none, none, none, none] M1 := fun b => by
    simp only [ex_for, ei_seq, ev_var, lk_zero, lk_succ, Option.bind_some, kSeq_ap, it_lst, Option.map_some, kFor_ap]
  have eMM : M1 ++ X2 = M ++ (X1 ++ X2) := by rw [← hM1, List.append_assoc]
  rw [eMM] at e8
  exact ⟨.bl true, _, X1 ++ X2, (seq_nx s1).trans <| (seq_nx s2).trans <| (seq_nx s3).trans <| (seq_nx s4).trans <| (seq_nx s5).trans <| (seq_nx s6).trans <| (seq_nx s7).trans <| (seq_nx ((s8 _).trans e8)).trans <| seq_rt rfl, by simp [hX1], frz_cl (k := 7) rfl⟩
end X

set_option maxRecDepth 100000
namespace DL
open PySem
/-- a comprehension that changes the store -/
theorem comp_st {α β : Type} {call : CallF} {elt : En → Mm → Option (D × Mm)} {t : Tg} {env : En} (g : α → D) (e : β → D) (P : β → Prop) (I : Nat → Mm → Prop) : ∀ (xs : List α) (acc : List D) (M : Mm) (n : Nat), I n M →
    (∀ x ∈ xs, ∀ m M, n ≤ m → m < n + xs.length → I m M → ∃ env1 q M', asg t (g x) env = some env1 ∧ elt env1 M = some (e q, M') ∧ P q ∧ I (m + 1) M') →
    ∃ (qs : List β) (M' : Mm), compGo (evT call .yes) elt t [] env (xs.map g) acc M = some (acc ++ qs.map e, M') ∧ qs.length = xs.length ∧ (∀ q ∈ qs, P q) ∧ I (n + xs.length) M'
  | [], acc, M, n, hI, _ => ⟨[], M, by simp [compGo], rfl, (fun q h => by simp at h), hI⟩
  | x :: xs, acc, M, n, hI, h => by
    obtain ⟨env1, q, M1, h1, h2, h3, h4⟩ := h x List.mem_cons_self n M (Nat.le_refl _) (by rw [List.length_cons]; omega) hI
    obtain ⟨qs, M', e1, e2, e3, e4⟩ := comp_st (call := call) g e P I xs (acc ++ [e q]) M1 (n + 1) h4 fun y hy m M hm1 hm2 => h y (List.mem_cons_of_mem _ hy) m M (by omega) (by rw [List.length_cons]; omega)
    refine ⟨q :: qs, M', ?_, by simp [e2], fun z hz => (List.mem_cons.mp hz).elim (fun w => by rw [w]; exact h3) (e3 z), ?_⟩
    · rw [List.map_cons, compGo, if_pos (show chks [] M = true from rfl), h1, Option.bind_some, et_yes, Option.bind_some]
      simp only [if_true, h2, Option.bind_some]
      rw [e1]
      simp
    · rw [List.length_cons, show n + (xs.length + 1) = n + 1 + xs.length by omega]; exact e4
theorem ints_of : ∀ ws : List Int, intsOf (ws.map D.int) = some ws
  | [] => rfl
  | w :: ws => by rw [List.map_cons]; simp [intsOf, ints_of ws]
theorem sum_ints {M : Mm} {m : Bool} {ws : List Int} : semB .sum m [.lst (ws.map D.int)] M = some (.int ws.sum, M) := by
  simp [semB, ints_of]
end DL
namespace X
open DL PySem
/-! ### the law's drawn boxes -/
/-- the store moved: only the cell's box -/
structure Mv (b c : Nat) (M M' : Mm) : Prop where
  len : M'.length = M.length
  oth : ∀ i, i ≠ b → M'[i]? = M[i]?
  bst : Bst M' b c
theorem Mv.trans {b c c' : Nat} {M M1 M2 : Mm} (h : Mv b c M M1) (k : Mv b c' M1 M2) : Mv b c' M M2 := ⟨k.len.trans h.len, fun i hi => (k.oth i hi).trans (h.oth i hi), k.bst⟩
theorem Bst.mono {M : Mm} {b c c' : Nat} (h : Bst M b c) (hc : c ≤ c') : Bst M b c' := by
  obtain ⟨a, g, m, k, h1, h2, h3, h4, h5⟩ := h.ex
  exact ⟨a, g, m, k, h1, h2, h3, h4, by omega⟩
theorem Bst.refl {M : Mm} {b c : Nat} (h : Bst M b c) : Mv b c M M := ⟨rfl, fun _ _ => rfl, h⟩
theorem Mv.mono {M M' : Mm} {b c c' : Nat} (h : Mv b c M M') (hc : c ≤ c') : Mv b c' M M' := ⟨h.len, h.oth, h.bst.mono hc⟩
theorem take_ev {f b c : Nat} {M : Mm} {env : En} {many : Int} (h : Bst M b c) (hc : c ≤ 1000000) (h1 : 0 < many) (h2 : many ≤ 64) (hf : 1 ≤ f) (he : lk env 0 M = some (.ref b, M)) :
    ∃ (i : Int) (M' : Mm), 0 ≤ i ∧ i < many ∧ Mv b (c + 1) M M' ∧ evE (callN defs f) (.call 44 (.cons (.var 0) (.cons (.con (.int many)) .nil))) env M = some (.int i, M') := by
  obtain ⟨i, o, i1, i2, hb, e⟩ := m_ltake h hc h1 h2
  refine ⟨i, M.set b o, i1, i2, ⟨by simp, fun j hj => List.getElem?_set_ne (fun q => hj q.symm), hb⟩, ?_⟩
  simp only [ev_call, es_cons, es_nil, ev_var, he, ev_con, Option.bind_some, kCs1_ap, kCs2_ap, kCall_ap]
  exact e f hf
theorem L1_of {q : Rat} {m : Int} {N : Nat} (h : q * ((27720 : Nat) : Rat) = m) (h1 : -(N : Rat) ≤ q) (h2 : q ≤ N) (hN : N ≤ 2 ^ 200) : L 1 q := by
  refine L.of (In.mono (N := N) (a := 1) ⟨⟨m, ?_⟩, h1, h2⟩ (Nat.le_refl _) hN)
  rw [Nat.pow_one]; exact h
theorem mk_mul {n : Int} {d K : Nat} (hd : 0 < d) (hk : d ∣ K) : mkRat n d * (K : Rat) = ((n * (K / d : Nat) : Int) : Rat) := by
  obtain ⟨e, rfl⟩ := hk
  rw [Nat.mul_div_cancel_left e hd, Rat.mkRat_eq_div, Rat.natCast_mul, Rat.intCast_mul, Rat.intCast_natCast]
  have hd0 : (d : Rat) ≠ 0 := fun z => by
    have : d = 0 := by exact_mod_cast z
    omega
  have : ((n : Rat) / (d : Rat)) * ((d : Rat) * (e : Rat)) = ((n : Rat) / (d : Rat) * (d : Rat)) * (e : Rat) := by rw [Rat.mul_assoc]
  rw [this, Rat.div_mul_cancel hd0]
theorem mk_bound {n : Int} {d : Nat} {N : Nat} (hd : 0 < d) (hn : n.natAbs ≤ N) : -(N : Rat) ≤ mkRat n d ∧ mkRat n d ≤ N := by
  have hd0 : (0 : Rat) < (d : Rat) := by exact_mod_cast hd
  have hN0 : (0 : Rat) ≤ (N : Rat) := by exact_mod_cast Nat.zero_le N
  have e : mkRat n d * (d : Rat) = n := by
    have := mk_mul (n := n) hd (Nat.dvd_refl d)
    rw [Nat.div_self hd] at this
    rw [this]; congr 1; omega
  have hd1 : (1 : Rat) ≤ (d : Rat) := by exact_mod_cast hd
  have h1 : (n : Rat) ≤ (N : Rat) := by
    have : n ≤ (N : Int) := by omega
    have := Rat.intCast_le_intCast.mpr this
    rwa [Rat.intCast_natCast] at this
  have h2 : -(N : Rat) ≤ (n : Rat) := by
    have : -(N : Int) ≤ n := by omega
    have := Rat.intCast_le_intCast.mpr this
    rwa [Rat.intCast_neg, Rat.intCast_natCast] at this
  have h3 : (N : Rat) ≤ (N : Rat) * (d : Rat) := by
    have := Rat.mul_le_mul_of_nonneg_left hd1 hN0
    grind
  refine ⟨Rat.le_of_mul_le_mul_right (c := (d : Rat)) ?_ hd0, Rat.le_of_mul_le_mul_right (c := (d : Rat)) ?_ hd0⟩
  · rw [e]; grind
  · rw [e]; grind
theorem mk_L {n : Int} {d : Nat} (hd : 0 < d) (hk : d ∣ 27720) (hn : n.natAbs ≤ 2 ^ 200) : L 1 (mkRat n d) :=
  L1_of (mk_mul hd hk) (mk_bound hd hn).1 (mk_bound hd hn).2 (Nat.le_refl _)
/-- what the law draws with -/
structure Unit' (u : Int) : Prop where
  pos : 0 < u
  le : u ≤ 2 ^ 70
theorem Unit'.mulB {u i : Int} (h : Unit' u) (hi : i.natAbs ≤ 64) : mulB i u = true := mulB_ok (by
    have := log2_mono hi
    have : Nat.log2 64 = 6 := by decide +kernel
    omega) (by
    have := log2_mono (show u.natAbs ≤ 2 ^ 70 by have := h.pos; have := h.le; omega)
    rw [Nat.log2_two_pow] at this
    omega)
theorem Unit'.small {u i : Int} (h : Unit' u) (hi : i.natAbs ≤ 64) : (i * u).natAbs ≤ 2 ^ 200 := by
  rw [Int.natAbs_mul]
  have h1 : u.natAbs ≤ 2 ^ 70 := by have := h.pos; have := h.le; omega
  exact Nat.le_trans (Nat.mul_le_mul hi h1) (by decide)
/-- the law's boxes -/
structure BoxOk (b : List Row) : Prop where
  bx : Bx b
  len : b.length ≤ 3
  lb : LB 1 b
  sh : ∃ s : Nat, 1 ≤ s ∧ s ≤ 12 ∧ ∀ r ∈ b, ∃ j : Nat, 1 ≤ j ∧ r.2 * s = j
theorem sum_bound {ws : List Int} (h : ∀ w ∈ ws, 1 ≤ w ∧ w ≤ 4) : (ws.length : Int) ≤ ws.sum ∧ ws.sum ≤ 4 * ws.length := by
  induction ws with
  | nil => simp
  | cons w ws ih =>
    have h1 := ih fun x m => h x (List.mem_cons_of_mem _ m)
    have h2 := h w List.mem_cons_self
    rw [List.sum_cons, List.length_cons]
    omega
theorem sum_mk {s : Nat} (hs : 0 < s) : ∀ ws : List Int, (ws.map fun w => mkRat w s).sum = mkRat ws.sum s
  | [] => by simp
  | w :: ws => by
    rw [List.map_cons, List.sum_cons, sum_mk hs ws, List.sum_cons]
    have hs0 : s ≠ 0 := by omega
    rw [Rat.mkRat_eq_div, Rat.mkRat_eq_div, Rat.mkRat_eq_div, Rat.intCast_add, Rat.div_def, Rat.div_def, Rat.div_def, Rat.add_mul]
theorem dvd12 : ∀ s, s < 13 → 1 ≤ s → s ∣ 27720 := by decide
theorem box_ok {ms : List Rat} {ws : List Int} (h1 : ms.Pairwise (· < ·)) (h2 : ∀ m ∈ ms, L 1 m) (h3 : ms.length ≤ 3) (h4 : ms ≠ []) (hl : ws.length = ms.length) (hw : ∀ w ∈ ws, 1 ≤ w ∧ w ≤ 4) : BoxOk (ms.zip (ws.map fun w => mkRat w ws.sum.toNat)) := by
  obtain ⟨b1, b2⟩ := sum_bound hw
  have hm : 1 ≤ ms.length := List.length_pos_iff.mpr h4
  have s1 : 1 ≤ ws.sum.toNat := by omega
  have s2 : ws.sum.toNat ≤ 12 := by omega
  have hfst : (ms.zip (ws.map fun w => mkRat w ws.sum.toNat)).map (·.1) = ms := List.map_fst_zip (by rw [List.length_map, hl]; exact Nat.le_refl _)
  have hsnd : (ms.zip (ws.map fun w => mkRat w ws.sum.toNat)).map (·.2) = ws.map fun w => mkRat w ws.sum.toNat := List.map_snd_zip (by rw [List.length_map, hl]; exact Nat.le_refl _)
  have hlen : (ms.zip (ws.map fun w => mkRat w ws.sum.toNat)).length = ms.length := by rw [List.length_zip, List.length_map, hl, Nat.min_self]
  have hmem : ∀ r ∈ ms.zip (ws.map fun w => mkRat w ws.sum.toNat), r.1 ∈ ms ∧ ∃ w ∈ ws, r.2 = mkRat w ws.sum.toNat := fun r hr => by
    have q1 : r.1 ∈ (ms.zip (ws.map fun w => mkRat w ws.sum.toNat)).map (·.1) := List.mem_map.mpr ⟨r, hr, rfl⟩
    have q2 : r.2 ∈ (ms.zip (ws.map fun w => mkRat w ws.sum.toNat)).map (·.2) := List.mem_map.mpr ⟨r, hr, rfl⟩
    rw [hfst] at q1
    rw [hsnd] at q2
    obtain ⟨w, hw, e⟩ := List.mem_map.mp q2
    exact ⟨q1, w, hw, e.symm⟩
  have hmk : ∀ w : Int, mkRat w ws.sum.toNat * (ws.sum.toNat : Rat) = (w : Rat) := fun w => by
    have := mk_mul (n := w) (show 0 < ws.sum.toNat by omega) (Nat.dvd_refl _)
    rw [Nat.div_self (by omega)] at this
    rw [this]; congr 1; omega
  have hs0 : (0 : Rat) < (ws.sum.toNat : Rat) := by exact_mod_cast s1
  refine ⟨⟨fun z => ?_, ?_, fun r hr => ?_, ?_⟩, by omega, fun r hr => ?_, ws.sum.toNat, s1, s2, fun r hr => ?_⟩
  · rw [z] at hlen; simp at hlen; omega
  · have := h1
    rw [← hfst, List.pairwise_map] at this
    exact this
  · obtain ⟨_, w, hw', e⟩ := hmem r hr
    have h5 := hmk w
    have h6 : (0 : Rat) < (w : Rat) := by
      have : (0 : Int) < w := by have := (hw w hw').1; omega
      exact_mod_cast this
    rw [← e] at h5
    rw [← h5] at h6
    exact (Rat.mul_pos_iff_of_pos_right hs0).mp h6
  · rw [← mass_eq, hsnd, sum_mk (by omega)]
    have h5 := hmk ws.sum
    have h6 : ((ws.sum : Int) : Rat) = (ws.sum.toNat : Rat) := by
      rw [← Rat.intCast_natCast, Int.toNat_of_nonneg (by omega)]
    rw [h6] at h5
    have hne : (ws.sum.toNat : Rat) ≠ 0 := by grind
    have : mkRat ws.sum ws.sum.toNat = 1 := by
      have h7 : (mkRat ws.sum ws.sum.toNat - 1) * (ws.sum.toNat : Rat) = 0 := by grind
      rcases Rat.mul_eq_zero.mp h7 with q | q
      · grind
      · exact absurd q hne
    exact this
  · obtain ⟨q1, w, hw', e⟩ := hmem r hr
    refine ⟨h2 _ q1, ?_⟩
    rw [e]
    exact mk_L (by omega) (dvd12 _ (by omega) s1) (by
      have := hw w hw'
      exact Nat.le_trans (show w.natAbs ≤ 4 by omega) (by decide))
  · obtain ⟨q1, w, hw', e⟩ := hmem r hr
    have := hw w hw'
    refine ⟨w.toNat, by omega, ?_⟩
    rw [e, hmk, ← Rat.intCast_natCast, Int.toNat_of_nonneg (by omega)]
end X

set_option maxRecDepth 100000
namespace X
open DL PySem
theorem range_take {call : CallF} {env : En} {M M' : Mm} {e : E} {i : Int} (h : evE call e env M = some (.int i, M')) (h0 : 0 ≤ i) (h1 : i ≤ 60) :
    evIt call (.irange1 (.op .add false (.con (.int 1)) e)) env M = some (⟨[], (List.range (1 + i.toNat)).map fun k : Nat => D.int (k : Nat)⟩, M') := by
  simp only [ei_r1, ev_op, ev_con, Option.bind_some, kOp1_ap, h, kOp2_ap, so_add, kR1_ap]
  rw [if_pos (in62_small (by omega) (by omega)), range_map, show (1 + i).toNat = 1 + i.toNat by omega]
theorem at_den {i : Int} (h0 : 0 ≤ i) (h1 : i < 4) : ∃ d : Nat, L2.atI [D.int 1, .int 1, .int 2, .int 3] i = some (.int (d : Nat)) ∧ 0 < d ∧ d ≤ 3 := by
  obtain ⟨k, rfl⟩ : ∃ k : Nat, i = k := ⟨i.toNat, by omega⟩
  have : k < 4 := by omega
  match k, this with
  | 0, _ => exact ⟨1, at_nat rfl, by decide, by decide⟩
  | 1, _ => exact ⟨1, at_nat rfl, by decide, by decide⟩
  | 2, _ => exact ⟨2, at_nat rfl, by decide, by decide⟩
  | 3, _ => exact ⟨3, at_nat rfl, by decide, by decide⟩
/-- a def that changes old objects only -/
theorem run_call {defs : List Df} {k f : Nat} {args : List D} {M M' : Mm} {res : D} {df : Df} {env' : En} (hd : defs[f]? = some df) (hl : args.length = df.np ∧ df.np ≤ df.ns) (hm : M'.length = M.length)
    (h : exS (callN defs k) df.body (args.map some ++ List.replicate (df.ns - df.np) none) M = some (.rt res, env', M')) : callN defs (k + 1) f args M = some (res, M') := by
  simp only [callN, hd, hl, and_self, if_true, h, retOf, hm, Nat.le_refl]
section
variable {f b c : Nat} {M : Mm} {u : Int}
theorem m_lbox (hf : 8 ≤ f) (hB : Bst M b c) (hc : c ≤ 900000) (hu : Unit' u) : ∃ (bx : List Row) (M' : Mm), BoxOk bx ∧ Mv b (c + 20) M M' ∧ callN defs f i__law_box_drawn [.ref b, .int u] M = some (boxD bx, M') := by
  obtain ⟨f, rfl⟩ : ∃ j, f = j + 1 := ⟨f - 1, by omega⟩
  -- how many
  obtain ⟨i0, M1, i00, i01, mv1, e1⟩ := take_ev (f := f) (env := [some (.ref b), some (.int u), none, none, none, none]) (many := 3) hB (by omega) (by decide) (by decide) (by omega) rfl
  obtain ⟨qs, M2, e2, e2l, e2q, e2i⟩ := comp_st (call := callN defs f) (elt := evE (callN defs f) (.call 46 (.cons (.op .mul false (.op .sub false (.call 44 (.cons (.var 0) (.cons (.con (.int 15)) .nil))) (.con (.int 4))) (.var 1)) (.cons (.idx (.lis false (.cons (.con (.int 1)) (.cons (.con (.int 1)) (.cons (.con (.int 2)) (.cons (.con (.int 3)) .nil))))) (.call 44 (.cons (.var 0) (.cons (.con (.int 4)) .nil)))) .nil))))
    (t := .nm 5) (env := wipeD [some (.ref b), some (.int u), none, none, none, none] [5]) (fun k : Nat => D.int (k : Nat)) fr (fun q => L 1 q) (fun m M' => Mv b (c + 1 + 2 * m) M M') (List.range (1 + i0.toNat)) [] M1 0 mv1 (fun x hx m Mx hm1 hm2 hI => by
      have hm3 : m ≤ 3 := by rw [List.length_range] at hm2; omega
      obtain ⟨i1, Ma, a0, a1, mva, ea⟩ := take_ev (f := f) (env := [some (.ref b), some (.int u), none, none, none, some (.int (x : Nat))]) (many := 15) hI.bst (by omega) (by decide) (by decide) (by omega) rfl
      obtain ⟨i2, Mb, b0, b1, mvb, eb⟩ := take_ev (f := f) (env := [some (.ref b), some (.int u), none, none, none, some (.int (x : Nat))]) (many := 4) mva.bst (by omega) (by decide) (by decide) (by omega) rfl
      obtain ⟨d, hd, hd0, hd3⟩ := at_den b0 b1
      refine ⟨[some (.ref b), some (.int u), none, none, none, some (.int (x : Nat))], mkRat ((i1 - 4) * u) d, Mb, rfl, ?_, mk_L hd0 (dvd12 d (by omega) hd0) (hu.small (by omega)), (hI.trans (mva.trans mvb)).mono (by omega)⟩
      rw [ev_call, es_cons, ev_op, ev_op]
      rw [ea]
      simp only [Option.bind_some, kOp1_ap, ev_con, ev_var, lk_zero, lk_succ, kOp2_ap, so_sub, so_mul, hu.mulB (show (i1 - 4).natAbs ≤ 64 by omega), iff_t, kCs1_ap, es_cons, es_nil]
      rw [ev_idx]
      simp only [ev_lis, es_cons, ev_con, es_nil, Option.bind_some, kCs1_ap, kCs2_ap, kLis_ap, new_f (show [D.int 1, .int 1, .int 2, .int 3].length ≤ lim from lim4), kIx1_ap]
      rw [eb]
      simp only [Option.bind_some, kIx2_ap, ix_lst, hd, Option.map_some, kCs1_ap, es_nil, kCs2_ap, kCall_ap]
      exact (pu_law_low rfl hd0 (by
        have := log2_mono hd3
        have : Nat.log2 3 = 1 := by decide +kernel
        omega)).at _ (by omega))
  rw [List.length_range] at e2l e2i
  have hq1 : 1 ≤ qs.length := by omega
  have hq3 : qs.length ≤ 3 := by omega
  obtain ⟨o1, o2, o3⟩ := inOrder_props qs
  have hms : ∀ m ∈ inOrder qs, L 1 m := fun m hm => e2q m ((o2 m).mp hm)
  have hne : inOrder qs ≠ [] := by
    obtain ⟨q, hq⟩ := List.exists_mem_of_ne_nil qs (List.length_pos_iff.mp (by omega))
    exact List.ne_nil_of_mem ((o2 q).mpr hq)
  have s1 : exS (callN defs f) (.set (.nm 2) (.call 53 (.cons (.comp false (.nm 5) [5] (.irange1 (.op .add false (.con (.int 1)) (.call 44 (.cons (.var 0) (.cons (.con (.int 3)) .nil))))) .yes (.call 46 (.cons (.op .mul false (.op .sub false (.call 44 (.cons (.var 0) (.cons (.con (.int 15)) .nil))) (.con (.int 4))) (.var 1)) (.cons (.idx (.lis false (.cons (.con (.int 1)) (.cons (.con (.int 1)) (.cons (.con (.int 2)) (.cons (.con (.int 3)) .nil))))) (.call 44 (.cons (.var 0) (.cons (.con (.int 4)) .nil)))) .nil)))) .nil))) [some (.ref b), some (.int u), none, none, none, none] M
      = some (.nx, [some (.ref b), some (.int u), some (.lst ((inOrder qs).map fr)), none, none, none], M2) := by
    rw [ex_set, ev_call, es_cons, ev_comp, range_take e1 i00 (by omega)]
    simp only [Option.bind_some, kCo_ap]
    rw [e2]
    simp only [Option.bind_some, kNew_ap, List.nil_append, new_f (show (qs.map fr).length ≤ lim by rw [List.length_map]; exact lim64 (by omega)), kCs1_ap, es_nil, kCs2_ap, kCall_ap]
    rw [(pu_lin_order e2q (by decide) (by omega)).at _ (by omega)]
    rfl
  generalize hmq : inOrder qs = ms at o1 o2 o3 hms hne s1
  have hm3 : ms.length ≤ 3 := by omega
  -- weights
  obtain ⟨ws, M3, e3, e3l, e3q, e3i⟩ := comp_st (call := callN defs f) (elt := evE (callN defs f) (.op .add false (.con (.int 1)) (.call 44 (.cons (.var 0) (.cons (.con (.int 4)) .nil)))))
    (t := .nm 4) (env := wipeD [some (.ref b), some (.int u), some (.lst (ms.map fr)), none, none, none] [4]) fr D.int (fun w => 1 ≤ w ∧ w ≤ 4) (fun m M' => Mv b (c + 10 + m) M M') ms [] M2 0 (e2i.mono (by omega)) (fun x hx m Mx hm1 hm2 hI => by
      obtain ⟨i1, Ma, a0, a1, mva, ea⟩ := take_ev (f := f) (env := [some (.ref b), some (.int u), some (.lst (ms.map fr)), none, some (fr x), none]) (many := 4) hI.bst (by omega) (by decide) (by decide) (by omega) rfl
      refine ⟨[some (.ref b), some (.int u), some (.lst (ms.map fr)), none, some (fr x), none], 1 + i1, Ma, rfl, ?_, by omega, (hI.trans mva).mono (by omega)⟩
      simp only [ev_op, ev_con, Option.bind_some, kOp1_ap]
      rw [ea]
      simp only [Option.bind_some, kOp2_ap, so_add])
  have s2 : exS (callN defs f) (.set (.nm 3) (.comp false (.nm 4) [4] (.iseq (.var 2)) .yes (.op .add false (.con (.int 1)) (.call 44 (.cons (.var 0) (.cons (.con (.int 4)) .nil)))))) [some (.ref b), some (.int u), some (.lst (ms.map fr)), none, none, none] M2
      = some (.nx, [some (.ref b), some (.int u), some (.lst (ms.map fr)), some (.lst (ws.map D.int)), none, none], M3) := by
    simp only [ex_set, ev_comp, ei_seq, ev_var, lk_zero, lk_succ, Option.bind_some, kSeq_ap, it_lst, Option.map_some, kCo_ap]
    rw [e3]
    simp only [Option.bind_some, kNew_ap, List.nil_append, new_f (show (ws.map D.int).length ≤ lim by rw [List.length_map]; exact lim64 (by omega)), kSet_ap, asg_nm, List.set, Option.map_some]
  have hok := box_ok o1 hms hm3 hne e3l e3q
  obtain ⟨b1, b2⟩ := sum_bound e3q
  have hmp : 1 ≤ ms.length := List.length_pos_iff.mpr hne
  have hlen : (ms.zip (ws.map fun w => mkRat w ws.sum.toNat)).length = ms.length := by rw [List.length_zip, List.length_map, e3l, Nat.min_self]
  have hlm : semB .len false [.lst (ms.map fr)] M3 = some (.int (ms.length : Nat), M3) := by rw [len_lst (by rw [List.length_map]; exact lim64 (by omega)), List.length_map]
  have s3 : exS (callN defs f) (.ret (.blt .tuple false (.cons (.comp false (.nm 5) [5] (.irange1 (.blt .len false (.cons (.var 2) .nil))) .yes (.tup (.cons (.idx (.var 2) (.var 5)) (.cons (.call 46 (.cons (.idx (.var 3) (.var 5)) (.cons (.blt .sum false (.cons (.var 3) .nil)) .nil))) .nil)))) .nil))) [some (.ref b), some (.int u), some (.lst (ms.map fr)), some (.lst (ws.map D.int)), none, none] M3
      = some (.rt (boxD (ms.zip (ws.map fun w => mkRat w ws.sum.toNat))), [some (.ref b), some (.int u), some (.lst (ms.map fr)), some (.lst (ws.map D.int)), none, none], M3) := by
    rw [ex_ret, ev_blt, es_cons, ev_comp, len_range rfl (by omega) hlm]
    simp only [Option.bind_some, kCo_ap]
    rw [comp_yes (fun i : Nat => D.int (i : Nat)) (fun i : Nat => D.tup [fr (ms.getD i 0), fr (mkRat (ws.getD i 0) ws.sum.toNat)]) (List.range ms.length) rfl fun k hk => by
      have hk' := List.mem_range.mp hk
      have g1 : L2.atI (ms.map fr) ((k : Nat) : Int) = some (fr (ms.getD k 0)) := at_nat (by rw [List.getElem?_map, List.getElem?_eq_getElem hk', List.getD_eq_getElem?_getD, List.getElem?_eq_getElem hk']; rfl)
      have g2 : L2.atI (ws.map D.int) ((k : Nat) : Int) = some (.int (ws.getD k 0)) := at_nat (by rw [List.getElem?_map, List.getElem?_eq_getElem (by omega), List.getD_eq_getElem?_getD, List.getElem?_eq_getElem (by omega)]; rfl)
      simp only [wipeD, List.set, asg_nm, Option.bind_some, ev_tup, es_cons, es_nil, ev_idx, ev_var, lk_zero, lk_succ, kIx1_ap, kIx2_ap, ix_lst, g1, g2, Option.map_some, kCs1_ap, kCs2_ap, ev_call, ev_blt, kBlt_ap, sum_ints, kCall_ap]
      rw [(pu_law_low (d := ws.sum.toNat) (by omega) (by omega) (by
        have := log2_mono (show ws.sum.toNat ≤ 12 by omega)
        have : Nat.log2 12 = 3 := by decide +kernel
        omega)).at _ (by omega)]
      rfl]
    have er : ((List.range ms.length).map fun i : Nat => D.tup [fr (ms.getD i 0), fr (mkRat (ws.getD i 0) ws.sum.toNat)]) = (ms.zip (ws.map fun w => mkRat w ws.sum.toNat)).map rowD := by
      apply List.ext_getElem
      · rw [List.length_map, List.length_map, List.length_range, hlen]
      · intro i h1 h2
        rw [List.length_map, List.length_range] at h1
        rw [List.getElem_map, List.getElem_map, List.getElem_range, List.getElem_zip, List.getElem_map, List.getD_eq_getElem?_getD, List.getD_eq_getElem?_getD, List.getElem?_eq_getElem h1, List.getElem?_eq_getElem (by omega)]
        rfl
    rw [er]
    have hl1 : ((ms.zip (ws.map fun w => mkRat w ws.sum.toNat)).map rowD).length ≤ lim := by rw [List.length_map, hlen]; exact lim64 (by omega)
    simp only [Option.bind_some, kNew_ap, new_f hl1, kCs1_ap, es_nil, kCs2_ap, kBlt_ap, tup_lst hl1, kRet_ap]
    rfl
  refine ⟨_, M3, hok, e3i.mono (by omega), ?_⟩
  exact run_call (df := ⟨2, 6, true, b__law_box_drawn⟩) rfl ⟨rfl, by decide⟩ e3i.len ((seq_nx s1).trans <| (seq_nx s2).trans <| seq_rt s3)
/-- costs -/
structure Cst (q : Rat) : Prop where
  int : ∃ m : Int, q * 12 = m
  pos : 0 < q
  le : q ≤ 2 ^ 100
theorem m_lcostly (hf : 9 ≤ f) (hB : Bst M b c) (hc : c ≤ 800000) (hu : Unit' u) : ∃ (p : Cos) (M' : Mm), Cst p.1 ∧ BoxOk p.2 ∧ Mv b (c + 30) M M' ∧ callN defs f i__law_costly [.ref b, .int u] M = some (cosD p, M') := by
  obtain ⟨f, rfl⟩ : ∃ j, f = j + 1 := ⟨f - 1, by omega⟩
  obtain ⟨i1, Ma, a0, a1, mva, ea⟩ := take_ev (f := f) (env := [some (.ref b), some (.int u)]) (many := 6) hB (by omega) (by decide) (by decide) (by omega) rfl
  obtain ⟨i2, Mb, b0, b1, mvb, eb⟩ := take_ev (f := f) (env := [some (.ref b), some (.int u)]) (many := 4) mva.bst (by omega) (by decide) (by decide) (by omega) rfl
  obtain ⟨bx, Mc, hbx, mvc, ec⟩ := m_lbox (f := f) (by omega) mvb.bst (by omega) hu
  have hd0 : 0 < (1 + i2).toNat := by omega
  have hd4 : (1 + i2).toNat ≤ 4 := by omega
  have hd12 : (1 + i2).toNat ∣ 12 := by
    have : ∀ d, d < 5 → 0 < d → d ∣ 12 := by decide
    exact this _ (by omega) hd0
  have hmv := (mva.trans (mvb.trans mvc)).mono (c' := c + 30) (by omega)
  refine ⟨(mkRat ((1 + i1) * u) (1 + i2).toNat, bx), Mc, ⟨⟨_, mk_mul hd0 hd12⟩, ?_, ?_⟩, hbx, hmv, ?_⟩
  · have hup := hu.pos
    have : (0 : Int) < (1 + i1) * u := Int.mul_pos (by omega) hup
    rw [Rat.mkRat_eq_div, Rat.div_def]
    refine Rat.mul_pos (by exact_mod_cast this) (Rat.inv_pos.mpr (by exact_mod_cast hd0))
  · have hs : ((1 + i1) * u).natAbs ≤ 2 ^ 100 := by
      rw [Int.natAbs_mul]
      have h1 : u.natAbs ≤ 2 ^ 70 := by have := hu.pos; have := hu.le; omega
      exact Nat.le_trans (Nat.mul_le_mul (show (1 + i1).natAbs ≤ 6 by omega) h1) (by decide)
    have := (mk_bound (N := 2 ^ 100) hd0 hs).2
    exact_mod_cast this
  · refine run_call (df := ⟨2, 2, true, b__law_costly⟩) (env' := [some (.ref b), some (.int u)]) rfl ⟨rfl, by decide⟩ hmv.len (seq_rt ?_)
    show exS (callN defs f) _ [some (.ref b), some (.int u)] M = _
    rw [ex_ret, ev_tup, es_cons, ev_call, es_cons, ev_op, ev_op]
    simp only [ev_con, Option.bind_some, kOp1_ap]
    rw [ea]
    simp only [Option.bind_some, kOp2_ap, so_add, kOp1_ap, ev_var, lk_zero, lk_succ, so_mul, hu.mulB (show (1 + i1).natAbs ≤ 64 by omega), iff_t, kCs1_ap, es_cons]
    rw [ev_op]
    simp only [ev_con, Option.bind_some, kOp1_ap]
    rw [eb]
    simp only [Option.bind_some, kOp2_ap, so_add, kCs1_ap, es_nil, kCs2_ap, kCall_ap]
    rw [(pu_law_low (d := (1 + i2).toNat) (by omega) hd0 (by
      have := log2_mono hd4
      have : Nat.log2 4 = 2 := by decide +kernel
      omega)).at _ (by omega)]
    simp only [Option.bind_some, kCs1_ap, es_cons, es_nil, ev_call, ev_var, lk_zero, lk_succ, kCs2_ap, kCall_ap]
    rw [show (61 : Nat) = i__law_box_drawn from rfl, ec]
    rfl
end
theorem wf_of {p : Cos} (h1 : Cst p.1) (h2 : BoxOk p.2) : Wf p := by
  obtain ⟨m, hm⟩ := h1.int
  refine ⟨h2.bx, h1.pos, h2.len, L1_of (m := m * 2310) (N := 2 ^ 100) ?_ ?_ ?_ (by decide), h2.lb, h2.sh⟩
  · rw [Rat.intCast_mul, ← hm]
    have : ((27720 : Nat) : Rat) = 12 * ((2310 : Int) : Rat) := by decide +kernel
    rw [this]; grind
  · have := h1.pos
    have h0 : (0 : Rat) ≤ ((2 ^ 100 : Nat) : Rat) := by exact_mod_cast Nat.zero_le _
    grind
  · have := h1.le
    have h0 : ((2 ^ 100 : Nat) : Rat) = 2 ^ 100 := by norm_cast
    rw [h0]; exact this
end X

set_option maxRecDepth 100000
namespace X
open DL PySem
theorem Bst.ext {M : Mm} {b c : Nat} {X : List MO} (h : Bst M b c) : Bst (M ++ X) b c := by
  obtain ⟨a, g, m, k, h1, h2⟩ := h.ex
  exact ⟨a, g, m, k, by rw [List.getElem?_append_left (List.getElem?_eq_some_iff.mp h1).1]; exact h1, h2⟩
theorem Bst.lt {M : Mm} {b c : Nat} (h : Bst M b c) : b < M.length := by
  obtain ⟨a, g, m, k, h1, h2⟩ := h.ex
  exact (List.getElem?_eq_some_iff.mp h1).1
theorem at_unit {i : Int} (h0 : 0 ≤ i) (h1 : i < 3) : ∃ u : Int, L2.atI [D.int 1, .int 1, .int (10 ^ (20 : Int).toNat)] i = some (.int u) ∧ Unit' u := by
  obtain ⟨k, rfl⟩ : ∃ k : Nat, i = k := ⟨i.toNat, by omega⟩
  have : k < 3 := by omega
  match k, this with
  | 0, _ => exact ⟨1, at_nat rfl, by decide, by decide⟩
  | 1, _ => exact ⟨1, at_nat rfl, by decide, by decide⟩
  | 2, _ => exact ⟨10 ^ (20 : Int).toNat, at_nat rfl, by decide, by decide⟩
/-- the cell's store: the box, the costly boxes -/
structure Sx (M : Mm) (b c : Nat) (cs : List Cos) (Mx : Mm) : Prop where
  len : Mx.length = M.length + 1
  at_ : Mx[M.length]? = some (.lst (cs.map cosD))
  oth : ∀ i, i < M.length → i ≠ b → Mx[i]? = M[i]?
  bst : Bst Mx b c
theorem Sx.mv {M Mx My : Mm} {b c c' : Nat} {cs : List Cos} (h : Sx M b c cs Mx) (hb : b < M.length) (k : Mv b c' Mx My) : Sx M b c' cs My :=
  ⟨k.len.trans h.len, (k.oth _ (by omega)).trans h.at_, fun i hi hne => (k.oth i hne).trans (h.oth i hi hne), k.bst⟩
theorem Sx.li {M Mx : Mm} {b c : Nat} {cs : List Cos} (h : Sx M b c cs Mx) : Li Mx (.ref M.length) (cs.map cosD) := .inr ⟨_, rfl, h.at_⟩
def Good (cs : List Cos) : Prop := ∀ c ∈ cs, Cst c.1 ∧ BoxOk c.2
theorem Good.wf {cs : List Cos} (h : Good cs) : ∀ c ∈ cs, Wf c := fun c m => wf_of (h c m).1 (h c m).2
theorem wf_of2 {q : Rat} {bx : List Row} (h1 : L 1 q) (h2 : 0 < q) (h : BoxOk bx) : Wf (q, bx) := ⟨h.bx, h2, h.len, h1, h.lb, h.sh⟩
theorem cst_up {q : Rat} {u : Int} (h : Cst q) (hu : Unit' u) : L 1 (q + mkRat u 2) ∧ 0 < q + mkRat u 2 := by
  obtain ⟨m, hm⟩ := h.int
  have hp := h.pos
  have hl := h.le
  have hup := hu.pos
  have e2 : mkRat u 2 * ((27720 : Nat) : Rat) = ((u * (27720 / 2 : Nat) : Int) : Rat) := mk_mul (by decide) (by decide)
  have hb := mk_bound (n := u) (d := 2) (N := 2 ^ 100) (by decide) (by
    have := hu.le
    exact Nat.le_trans (show u.natAbs ≤ 2 ^ 70 by omega) (by decide))
  have h100 : ((2 ^ 100 : Nat) : Rat) = 2 ^ 100 := by norm_cast
  rw [h100] at hb
  have hpos : 0 < mkRat u 2 := by
    rw [Rat.mkRat_eq_div, Rat.div_def]
    exact Rat.mul_pos (by exact_mod_cast hup) (by decide +kernel)
  have h101 : ((2 ^ 101 : Nat) : Rat) = 2 ^ 100 + 2 ^ 100 := by
    have : (2 ^ 101 : Nat) = 2 ^ 100 + 2 ^ 100 := by decide
    rw [this, Rat.natCast_add, h100]
  refine ⟨L1_of (m := m * 2310 + u * (27720 / 2 : Nat)) (N := 2 ^ 101) ?_ ?_ ?_ (by decide), by grind⟩
  · rw [Rat.add_mul, e2, Rat.intCast_add, Rat.intCast_mul m, ← hm]
    have : ((27720 : Nat) : Rat) = 12 * ((2310 : Int) : Rat) := by decide +kernel
    rw [this]; grind
  · rw [h101]; grind
  · rw [h101]; grind
theorem cst_half {q : Rat} (h : Cst q) : L 1 (mkRat q.num (2 * q.den)) ∧ 0 < mkRat q.num (2 * q.den) := by
  obtain ⟨m, hm⟩ := h.int
  have hp := h.pos
  have hl := h.le
  have e : mkRat q.num (2 * q.den) * 2 = q := by
    have hd : (q.den : Rat) ≠ 0 := fun z => by
      have h1 : q.den = 0 := by exact_mod_cast z
      have := q.den_pos
      omega
    have hq : q * (q.den : Rat) = q.num := by
      have := mk_mul (n := q.num) q.den_pos (Nat.dvd_refl q.den)
      rw [Nat.div_self q.den_pos, Rat.mkRat_self] at this
      rw [this]; congr 1; omega
    have h2 : mkRat q.num (2 * q.den) * ((2 * q.den : Nat) : Rat) = q.num := by
      have := mk_mul (n := q.num) (d := 2 * q.den) (by have := q.den_pos; omega) (Nat.dvd_refl _)
      rw [Nat.div_self (by have := q.den_pos; omega)] at this
      rw [this]; congr 1; omega
    rw [Rat.natCast_mul] at h2
    have h3 : (mkRat q.num (2 * q.den) * 2 - q) * (q.den : Rat) = 0 := by
      have : ((2 : Nat) : Rat) = 2 := rfl
      rw [this] at h2
      grind
    rcases Rat.mul_eq_zero.mp h3 with z | z
    · grind
    · exact absurd z hd
  have h100 : ((2 ^ 100 : Nat) : Rat) = 2 ^ 100 := by norm_cast
  generalize mkRat q.num (2 * q.den) = x at e
  refine ⟨L1_of (m := m * 1155) (N := 2 ^ 100) ?_ ?_ ?_ (by decide), by grind⟩
  · rw [Rat.intCast_mul, ← hm]
    have h1 : ((27720 : Nat) : Rat) = 2 * (12 * ((1155 : Int) : Rat)) := by decide +kernel
    rw [h1, ← e]; grind
  · rw [h100]; grind
  · rw [h100]; grind
theorem fr_int {n : Int} : fr (mkRat n 1) = .tup [.int n, .int 1] := by
  rw [show mkRat n 1 = (n : Rat) from Rat.mkRat_one n]; rfl
theorem half : (D.tup [.int 1, .int 2]) = fr (1 / 2) := by decide +kernel
theorem L_half : L 1 (1 / 2) := L1_of (m := 13860) (N := 1) (by decide +kernel) (by decide +kernel) (by decide +kernel) (by decide)
theorem cut_3 {xs : List D} : cutD xs none (some 3) = xs.take (min 3 xs.length) := by
  unfold cutD
  rw [HT.sIx_none, show HT.sIx xs.length xs.length (some (3 : Int)) = min 3 xs.length from HT.sIx_nat _ _ 3]
  simp
section
variable {f b c : Nat} {M : Mm}
/-- the costly boxes, the last one perhaps the first -/
theorem cell_cs (hf : 11 ≤ f) (hB : Bst M b c) (hc : c ≤ 1000) {u : Int} (hu : Unit' u) {x1 : Option D} : ∃ (cs : List Cos) (Mx : Mm), Good cs ∧ 1 ≤ cs.length ∧ cs.length ≤ 3 ∧ Sx M b (c + 200) cs Mx ∧
    ∀ r, exS (callN defs f) (.seq (.setc 3 (.comp true (.nm 12) [12] (.irange1 (.op .add false (.con (.int 1)) (.call 44 (.cons (.var 0) (.cons (.con (.int 3)) .nil))))) .yes (.call 62 (.cons (.var 0) (.cons (.var 2) .nil))))) (.seq (.ite (.and (.cmp .gt (.blt .len false (.cons (.var 3) .nil)) (.con (.int 1))) (.one (.cmp .eq (.call 44 (.cons (.var 0) (.cons (.con (.int 4)) .nil))) (.con (.int 0))))) (.seq (.put (.var 3) (.neg (.con (.int 1))) (.idx (.var 3) (.con (.int 0)))) .nil) .nil) r))
        [some (.ref b), x1, some (.int u), none, none, none, none, none, none, none, none, none, none] M
      = exS (callN defs f) r [some (.ref b), x1, some (.int u), some (.ref M.length), none, none, none, none, none, none, none, none, none] Mx := by
  have hbl := hB.lt
  obtain ⟨i0, M1, i00, i01, mv1, e1⟩ := take_ev (f := f) (env := [some (.ref b), x1, some (.int u), none, none, none, none, none, none, none, none, none, none]) (many := 3) hB (by omega) (by decide) (by decide) (by omega) rfl
  obtain ⟨cs, M2, e2, e2l, e2q, e2i⟩ := comp_st (call := callN defs f) (elt := evE (callN defs f) (.call 62 (.cons (.var 0) (.cons (.var 2) .nil))))
    (t := .nm 12) (env := wipeD [some (.ref b), x1, some (.int u), none, none, none, none, none, none, none, none, none, none] [12]) (fun k : Nat => D.int (k : Nat)) cosD (fun p => Cst p.1 ∧ BoxOk p.2) (fun m M' => Mv b (c + 1 + 30 * m) M M') (List.range (1 + i0.toNat)) [] M1 0 mv1 (fun x hx m Mx hm1 hm2 hI => by
      rw [List.length_range] at hm2
      obtain ⟨p, M', p1, p2, mv, e⟩ := m_lcostly (f := f) (by omega) hI.bst (by omega) hu
      refine ⟨[some (.ref b), x1, some (.int u), none, none, none, none, none, none, none, none, none, some (.int (x : Nat))], p, M', rfl, ?_, ⟨p1, p2⟩, (hI.trans mv).mono (by omega)⟩
      simp only [ev_call, es_cons, es_nil, ev_var, lk_zero, lk_succ, Option.bind_some, kCs1_ap, kCs2_ap, kCall_ap]
      exact e)
  rw [List.length_range] at e2l e2i
  have hl2 := e2i.len
  have hcl1 : 1 ≤ cs.length := by omega
  have hcl3 : cs.length ≤ 3 := by omega
  have s1 : exS (callN defs f) (.setc 3 (.comp true (.nm 12) [12] (.irange1 (.op .add false (.con (.int 1)) (.call 44 (.cons (.var 0) (.cons (.con (.int 3)) .nil))))) .yes (.call 62 (.cons (.var 0) (.cons (.var 2) .nil))))) [some (.ref b), x1, some (.int u), none, none, none, none, none, none, none, none, none, none] M
      = some (.nx, [some (.ref b), x1, some (.int u), some (.ref M.length), none, none, none, none, none, none, none, none, none], M2 ++ [.lst (cs.map cosD)]) := by
    rw [ex_setc, ev_comp, range_take e1 i00 (by omega)]
    simp only [Option.bind_some, kCo_ap]
    rw [e2]
    simp only [Option.bind_some, kNew_ap, List.nil_append, new_t (show (cs.map cosD).length ≤ lim by rw [List.length_map]; exact lim64 (by omega)), kSetc_ap, List.set, hl2]
  have hS : Sx M b (c + 100) cs (M2 ++ [.lst (cs.map cosD)]) := ⟨by simp [hl2], by rw [← hl2]; exact get_last, fun i hi hne => by rw [List.getElem?_append_left (by omega)]; exact e2i.oth i hne, (e2i.bst.mono (by omega)).ext⟩
  generalize M2 ++ [MO.lst (cs.map cosD)] = Mx at hS s1
  have hlen := hS.li.sl.len (m := false) (by rw [List.length_map]; exact lim64 (by omega))
  rw [List.length_map] at hlen
  have fin : ∀ (cs' : List Cos) (My : Mm), Good cs' → cs'.length = cs.length → Sx M b (c + 200) cs' My → exS (callN defs f) (.ite (.and (.cmp .gt (.blt .len false (.cons (.var 3) .nil)) (.con (.int 1))) (.one (.cmp .eq (.call 44 (.cons (.var 0) (.cons (.con (.int 4)) .nil))) (.con (.int 0))))) (.seq (.put (.var 3) (.neg (.con (.int 1))) (.idx (.var 3) (.con (.int 0)))) .nil) .nil) [some (.ref b), x1, some (.int u), some (.ref M.length), none, none, none, none, none, none, none, none, none] Mx
      = some (.nx, [some (.ref b), x1, some (.int u), some (.ref M.length), none, none, none, none, none, none, none, none, none], My) → ∃ (cs : List Cos) (Mx : Mm), Good cs ∧ 1 ≤ cs.length ∧ cs.length ≤ 3 ∧ Sx M b (c + 200) cs Mx ∧
    ∀ r, exS (callN defs f) (.seq (.setc 3 (.comp true (.nm 12) [12] (.irange1 (.op .add false (.con (.int 1)) (.call 44 (.cons (.var 0) (.cons (.con (.int 3)) .nil))))) .yes (.call 62 (.cons (.var 0) (.cons (.var 2) .nil))))) (.seq (.ite (.and (.cmp .gt (.blt .len false (.cons (.var 3) .nil)) (.con (.int 1))) (.one (.cmp .eq (.call 44 (.cons (.var 0) (.cons (.con (.int 4)) .nil))) (.con (.int 0))))) (.seq (.put (.var 3) (.neg (.con (.int 1))) (.idx (.var 3) (.con (.int 0)))) .nil) .nil) r))
        [some (.ref b), x1, some (.int u), none, none, none, none, none, none, none, none, none, none] M
      = exS (callN defs f) r [some (.ref b), x1, some (.int u), some (.ref M.length), none, none, none, none, none, none, none, none, none] Mx := fun cs' My h1 h2 h3 h4 => ⟨cs', My, h1, by omega, by omega, h3, fun r => (seq_nx s1).trans (seq_nx h4)⟩
  have hgt : ∀ env, evT (callN defs f) (.cmp .gt (.blt .len false (.cons (.var 3) .nil)) (.con (.int 1))) (some (.ref b) :: x1 :: some (.int u) :: some (.ref M.length) :: env) Mx = some (decide (1 < (cs.length : Int)), Mx) := fun env => by
    simp only [et_cmp, ev_blt, es_cons, es_nil, ev_var, lk_zero, lk_succ, Option.bind_some, kCs1_ap, kCs2_ap, kBlt_ap, hlen, kCmp1_ap, ev_con, kCmp2_ap, sc_gt, Option.map_some]
  by_cases h1 : 1 < (cs.length : Int)
  · obtain ⟨i1, My, j0, j1, mvy, ey⟩ := take_ev (f := f) (env := [some (.ref b), x1, some (.int u), some (.ref M.length), none, none, none, none, none, none, none, none, none]) (many := 4) hS.bst (by omega) (by decide) (by decide) (by omega) rfl
    have hSy := hS.mv hbl mvy
    by_cases hi : i1 = 0
    · have hc0 : cs[0]? = some cs[0] := List.getElem?_eq_getElem (by omega)
      have hput : semPut My (.ref M.length) (.int (-1)) (cosD cs[0]) = some (My.set M.length (.lst ((cs.set (cs.length - 1) cs[0]).map cosD))) := by
        have e : L2.ixN (cs.map cosD).length (-1) = some (cs.length - 1) := by
          unfold L2.ixN
          rw [List.length_map, if_neg (by decide), if_pos (by omega)]
          congr 1
          omega
        simp only [semPut, hSy.at_, intOf, Option.bind_eq_bind, Option.bind_some, e]
        rw [List.map_set]
      refine fin (cs.set (cs.length - 1) cs[0]) (My.set M.length (.lst ((cs.set (cs.length - 1) cs[0]).map cosD))) (fun p hp => ?_) (by simp) ⟨by simp [hSy.len], List.getElem?_set_self (by rw [hSy.len]; omega), fun i hi hne => by rw [List.getElem?_set_ne (by omega)]; exact hSy.oth i hi hne, ?_⟩ ?_
      · rcases List.mem_or_eq_of_mem_set hp with q | q
        · exact e2q p q
        · rw [q]; exact e2q _ (List.getElem_mem _)
      · obtain ⟨a, g, m, k, q1, q2, q3, q4, q5⟩ := hSy.bst.ex
        exact ⟨a, g, m, k, by rw [List.getElem?_set_ne (by omega)]; exact q1, q2, q3, q4, by omega⟩
      · rw [ex_ite, et_and, hgt]
        simp only [decide_eq_true h1, Option.bind_some, kAndT_t, et_one, et_cmp]
        rw [ey]
        simp only [Option.bind_some, kCmp1_ap, ev_con, kCmp2_ap, sc_eqi, decide_eq_true hi, Option.map_some, kIf_t, ex_seq, ex_put, ev_idx, ev_var, lk_zero, lk_succ, kIx1_ap, kIx2_ap, hSy.li.sl.ix]
        rw [show L2.atI (cs.map cosD) 0 = some (cosD cs[0]) from at_nat (n := 0) (by rw [List.getElem?_map, hc0]; rfl)]
        simp only [Option.map_some, Option.bind_some, kPut1_ap, ev_var, lk_zero, lk_succ, kPut2_ap, ev_neg, ev_con, kNeg_ap, kPut3_ap, hput, kSq_nx, DL.ex_nil]
    · refine fin cs My e2q rfl ⟨hSy.len, hSy.at_, hSy.oth, hSy.bst.mono (by omega)⟩ ?_
      rw [ex_ite, et_and, hgt]
      simp only [decide_eq_true h1, Option.bind_some, kAndT_t, et_one, et_cmp]
      rw [ey]
      simp only [Option.bind_some, kCmp1_ap, ev_con, kCmp2_ap, sc_eqi, decide_eq_false hi, Option.map_some, kIf_f, DL.ex_nil]
  · refine fin cs Mx e2q rfl ⟨hS.len, hS.at_, hS.oth, hS.bst.mono (by omega)⟩ ?_
    rw [ex_ite, et_and, hgt]
    simp only [decide_eq_false h1, Option.bind_some, kAndT_f, kIf_f, DL.ex_nil]
end
end X

set_option maxRecDepth 100000
namespace X
open DL PySem
theorem head_ord {rs : List Rat} (h : rs ≠ []) : L2.atI (rs.map fr) 0 = some (fr (rs.headD 0)) := by
  cases rs with
  | nil => exact absurd rfl h
  | cons x l => simp
theorem ix_fr0 {M : Mm} {q : Rat} : semIx M (fr q) (.int 0) = some (.int q.num) := by simp [fr]
theorem ix_fr1 {M : Mm} {q : Rat} : semIx M (fr q) (.int 1) = some (.int (q.den : Nat)) := by simp [fr]
theorem ix_cos0 {M : Mm} {c : Cos} : semIx M (cosD c) (.int 0) = some (fr c.1) := by simp [cosD]
theorem ix_cos1 {M : Mm} {c : Cos} : semIx M (cosD c) (.int 1) = some (boxD c.2) := by simp [cosD]
theorem ix_box0 {M : Mm} {b : List Row} (h : b ≠ []) : semIx M (boxD b) (.int 0) = some (rowD (hdR b)) := by
  rw [boxD, ix_tup, at_head h]
theorem ix_row0 {M : Mm} {r : Row} : semIx M (rowD r) (.int 0) = some (fr r.1) := by simp [rowD]
/-- the offers that are asked -/
def small (q : Rat) : Bool := decide ((if (q.den : Int) > (if q.num < 0 then -q.num else q.num) then (q.den : Int) else (if q.num < 0 then -q.num else q.num)) < 10 ^ (40 : Int).toNat)
section
variable {f b c : Nat} {M Mx : Mm} {cs : List Cos} {u t : Int}
/-- reserves and offers -/
theorem cell_off (hf : 12 ≤ f) (hg : Good cs) (h1 : 1 ≤ cs.length) (h3 : cs.length ≤ 3) (hS : Sx M b c cs Mx) (hb : b < M.length) (hc : c ≤ 2000) (hu : Unit' u) {x1 : Option D} : ∃ (ys : List Rat) (My : Mm), (∀ y ∈ ys, L 10 y) ∧ ys.length ≤ 7 ∧ Sx M b (c + 10) cs My ∧
    ∃ x4, ∀ r, exS (callN defs f) (.seq (.set (.nm 4) (.call 53 (.cons (.comp false (.nm 6) [6] (.iseq (.var 3)) .yes (.call 57 (.cons (.var 6) .nil))) .nil))) (.seq (.set (.nm 5) (.op .add false (.var 4) (.lis false (.cons (.call 46 (.cons (.op .mul false (.op .sub false (.call 44 (.cons (.var 0) (.cons (.con (.int 9)) .nil))) (.con (.int 3))) (.var 2)) (.cons (.con (.int 2)) .nil))) (.cons (.call 48 (.cons (.idx (.var 4) (.con (.int 0))) (.cons (.tup (.cons (.op .mul false (.con (.int 9)) (.var 2)) (.cons (.con (.int 1)) .nil))) .nil))) (.cons (.call 47 (.cons (.idx (.var 4) (.neg (.con (.int 1)))) (.cons (.tup (.cons (.con (.int 1)) (.cons (.con (.int 2)) .nil))) .nil))) (.cons (.idx (.idx (.idx (.idx (.var 3) (.con (.int 0))) (.con (.int 1))) (.con (.int 0))) (.con (.int 0))) .nil))))))) (.seq (.setc 5 (.comp false (.nm 7) [7] (.iseq (.var 5)) (.cmp .lt (.blt .max2 false (.cons (.blt .abs false (.cons (.idx (.var 7) (.con (.int 0))) .nil)) (.cons (.idx (.var 7) (.con (.int 1))) .nil))) (.op .pow false (.con (.int 10)) (.con (.int 40)))) (.var 7))) r)))
        [some (.ref b), x1, some (.int u), some (.ref M.length), none, none, none, none, none, none, none, none, none] Mx
      = exS (callN defs f) r [some (.ref b), x1, some (.int u), some (.ref M.length), x4, some (.lst (ys.map fr)), none, none, none, none, none, none, none] My := by
  have hw := hg.wf
  have hne : cs ≠ [] := List.length_pos_iff.mp (by omega)
  obtain ⟨src, hit, hchk⟩ := hS.li.sl.it
  have hR : ∀ x ∈ reserves cs, L 7 x := fun x m => by
    obtain ⟨c, hc, rfl⟩ := List.mem_map.mp m
    exact reserve_L (hw c hc)
  have hRl : (reserves cs).length = cs.length := by unfold reserves; rw [List.length_map]
  have hord := (pu_lin_order hR (by decide) (by omega)).at Mx (k := f) (by omega)
  obtain ⟨o1, o2, o3⟩ := inOrder_props (reserves cs)
  have hn0 : inOrder (reserves cs) ≠ [] := List.ne_nil_of_mem ((o2 _).mpr (gts_props (res_ne hne)).1)
  have hoL : ∀ x ∈ inOrder (reserves cs), L 7 x := fun x hx => hR x ((o2 x).mp hx)
  have s1 : exS (callN defs f) (.set (.nm 4) (.call 53 (.cons (.comp false (.nm 6) [6] (.iseq (.var 3)) .yes (.call 57 (.cons (.var 6) .nil))) .nil))) [some (.ref b), x1, some (.int u), some (.ref M.length), none, none, none, none, none, none, none, none, none] Mx
      = some (.nx, [some (.ref b), x1, some (.int u), some (.ref M.length), some (.lst ((inOrder (reserves cs)).map fr)), none, none, none, none, none, none, none, none], Mx) := by
    simp only [ex_set, ev_call, es_cons, ev_comp, ei_seq, ev_var, lk_zero, lk_succ, Option.bind_some, kSeq_ap, hit, Option.map_some, kCo_ap]
    rw [comp_yes cosD (fun c => fr (reserve c.1 c.2)) cs hchk fun c hc => by
      simp only [wipeD, List.set, asg_nm, Option.bind_some, ev_call, es_cons, es_nil, ev_var, lk_zero, lk_succ, kCs1_ap, kCs2_ap, kCall_ap]
      exact (pu_lreserve (hw c hc)).at _ (by omega)]
    have er : (cs.map fun c => fr (reserve c.1 c.2)) = (reserves cs).map fr := by unfold reserves; rw [List.map_map]; rfl
    rw [er]
    simp only [Option.bind_some, kNew_ap, new_f (show ((reserves cs).map fr).length ≤ lim by rw [List.length_map]; exact lim64 (by omega)), kCs1_ap, es_nil, kCs2_ap, kCall_ap]
    rw [hord]
    rfl
  generalize inOrder (reserves cs) = rs at o1 o2 o3 hn0 hoL s1
  obtain ⟨i1, My, j0, j1, mvy, ey⟩ := take_ev (f := f) (env := [some (.ref b), x1, some (.int u), some (.ref M.length), some (.lst (rs.map fr)), none, none, none, none, none, none, none, none]) (many := 9) hS.bst (by omega) (by decide) (by decide) (by omega) rfl
  have hSy := hS.mv hb mvy
  have hh : rs.headD 0 ∈ rs := by
    cases rs with
    | nil => exact absurd rfl hn0
    | cons x l => simp
  have hlr : lastR rs ∈ rs := getLast_mem hn0
  have l9 : L 1 (mkRat (9 * u) 1) := mk_L (by decide) (by decide) (hu.small (by decide))
  have lm : L 1 (mkRat ((i1 - 3) * u) 2) := mk_L (by decide) (by decide) (hu.small (by omega))
  have hc0 : cs[0]? = some cs[0] := List.getElem?_eq_getElem (by omega)
  have hwc := hw cs[0] (List.getElem_mem _)
  have hix0 : semIx My (.ref M.length) (.int 0) = some (cosD cs[0]) := by
    rw [hSy.li.sl.ix]
    exact at_nat (n := 0) (by rw [List.getElem?_map, hc0]; rfl)
  have qL : ∀ q ∈ rs ++ [mkRat ((i1 - 3) * u) 2, rs.headD 0 - mkRat (9 * u) 1, lastR rs + 1 / 2, (hdR cs[0].2).1], L 10 q := fun q hq => by
    rcases List.mem_append.mp hq with m | m
    · exact (hoL q m).mono (by decide)
    · simp at m
      rcases m with rfl | rfl | rfl | rfl
      · exact lm.mono (by decide)
      · exact ((hoL _ (by simpa using hh)).sub (l9.mono (by decide))).mono (by decide)
      · have h2 : (2 : Rat)⁻¹ = 1 / 2 := by decide +kernel
        first
        | exact ((hoL _ hlr).add (L_half.mono (by decide))).mono (by decide)
        | (rw [h2]; exact ((hoL _ hlr).add (L_half.mono (by decide))).mono (by decide))
      · exact ((hwc.lb _ (head_mem hwc)).1).mono (by decide)
  have s2 : exS (callN defs f) (.set (.nm 5) (.op .add false (.var 4) (.lis false (.cons (.call 46 (.cons (.op .mul false (.op .sub false (.call 44 (.cons (.var 0) (.cons (.con (.int 9)) .nil))) (.con (.int 3))) (.var 2)) (.cons (.con (.int 2)) .nil))) (.cons (.call 48 (.cons (.idx (.var 4) (.con (.int 0))) (.cons (.tup (.cons (.op .mul false (.con (.int 9)) (.var 2)) (.cons (.con (.int 1)) .nil))) .nil))) (.cons (.call 47 (.cons (.idx (.var 4) (.neg (.con (.int 1)))) (.cons (.tup (.cons (.con (.int 1)) (.cons (.con (.int 2)) .nil))) .nil))) (.cons (.idx (.idx (.idx (.idx (.var 3) (.con (.int 0))) (.con (.int 1))) (.con (.int 0))) (.con (.int 0))) .nil))))))) [some (.ref b), x1, some (.int u), some (.ref M.length), some (.lst (rs.map fr)), none, none, none, none, none, none, none, none] Mx
      = some (.nx, [some (.ref b), x1, some (.int u), some (.ref M.length), some (.lst (rs.map fr)), some (.lst ((rs ++ [mkRat ((i1 - 3) * u) 2, rs.headD 0 - mkRat (9 * u) 1, lastR rs + 1 / 2, (hdR cs[0].2).1]).map fr)), none, none, none, none, none, none, none], My) := by
    rw [ex_set, ev_op, ev_var]
    simp only [lk_zero, lk_succ, Option.bind_some, kOp1_ap]
    rw [ev_lis, es_cons, ev_call, es_cons, ev_op, ev_op, ey]
    simp only [Option.bind_some, kOp1_ap, ev_con, ev_var, lk_zero, lk_succ, kOp2_ap, so_sub, so_mul, hu.mulB (show (i1 - 3).natAbs ≤ 64 by omega), iff_t, kCs1_ap, es_cons, es_nil, kCs2_ap, kCall_ap]
    rw [(pu_law_low (n := (i1 - 3) * u) (b := 2) (d := 2) rfl (by decide) (by decide +kernel)).at _ (by omega)]
    simp only [Option.bind_some, kCs1_ap, es_cons, es_nil, ev_call, ev_idx, ev_var, lk_zero, lk_succ, kIx1_ap, ev_con, kIx2_ap, ix_lst, head_ord hn0, Option.map_some, ev_tup, ev_op, kOp1_ap, kOp2_ap, so_mul, hu.mulB (show (9 : Int).natAbs ≤ 64 by decide), iff_t, kCs2_ap, kTup_ap, List.length_cons, List.length_nil, Nat.zero_add, Nat.reduceAdd, lim2, if_true, ← fr_int, kCall_ap]
    rw [(pu_lminus ((hoL _ hh).ok (by omega)) (l9.ok (by omega))).at _ (by omega)]
    simp only [Option.bind_some, kCs1_ap, es_cons, es_nil, ev_call, ev_idx, ev_var, lk_zero, lk_succ, kIx1_ap, ev_con, ev_neg, kNeg_ap, kIx2_ap, ix_lst, at_neg (show rs.map fr ≠ [] by simpa using hn0), last_fr hn0, Option.map_some, ev_tup, kCs2_ap, kTup_ap, List.length_cons, List.length_nil, Nat.zero_add, Nat.reduceAdd, lim2, if_true, half, kCall_ap]
    rw [(pu_lplus ((hoL _ hlr).ok (by omega)) (L_half.ok (by omega))).at _ (by omega)]
    simp only [Option.bind_some, kCs1_ap, es_cons, es_nil, ev_idx, ev_var, lk_zero, lk_succ, kIx1_ap, ev_con, kIx2_ap, hix0, Option.map_some, ix_cos1, ix_box0 hwc.bx.ne, ix_row0, kCs2_ap, kLis_ap]
    rw [new_f (show [fr (mkRat ((i1 - 3) * u) 2), fr (rs.headD 0 - mkRat (9 * u) 1), fr (lastR rs + 1 / 2), fr (hdR cs[0].2).1].length ≤ lim from lim4)]
    simp only [Option.bind_some, kOp2_ap]
    rw [add_lst (by rw [List.length_map]; exact lim64 (by simp; omega))]
    simp only [Option.bind_some, kSet_ap, asg_nm, List.set, Option.map_some]
    rw [List.map_append]
    rfl
  have hql : (rs ++ [mkRat ((i1 - 3) * u) 2, rs.headD 0 - mkRat (9 * u) 1, lastR rs + 1 / 2, (hdR cs[0].2).1]).length ≤ 7 := by
    rw [List.length_append]
    simp
    omega
  generalize rs ++ [mkRat ((i1 - 3) * u) 2, rs.headD 0 - mkRat (9 * u) 1, lastR rs + 1 / 2, (hdR cs[0].2).1] = qs at qL hql s2
  have hp40 : CPowB 10 40 = true := by decide
  have s3 : exS (callN defs f) (.setc 5 (.comp false (.nm 7) [7] (.iseq (.var 5)) (.cmp .lt (.blt .max2 false (.cons (.blt .abs false (.cons (.idx (.var 7) (.con (.int 0))) .nil)) (.cons (.idx (.var 7) (.con (.int 1))) .nil))) (.op .pow false (.con (.int 10)) (.con (.int 40)))) (.var 7))) [some (.ref b), x1, some (.int u), some (.ref M.length), some (.lst (rs.map fr)), some (.lst (qs.map fr)), none, none, none, none, none, none, none] My
      = some (.nx, [some (.ref b), x1, some (.int u), some (.ref M.length), some (.lst (rs.map fr)), some (.lst ((qs.filter small).map fr)), none, none, none, none, none, none, none], My) := by
    simp only [ex_setc, ev_comp, ei_seq, ev_var, lk_zero, lk_succ, Option.bind_some, kSeq_ap, it_lst, Option.map_some, kCo_ap]
    rw [comp_if fr fr small qs rfl (fun q hq => by
      simp only [wipeD, List.set, asg_nm, Option.bind_some, et_cmp, ev_blt, es_cons, es_nil, ev_idx, ev_var, lk_zero, lk_succ, kIx1_ap, ev_con, kIx2_ap, ix_fr0, ix_fr1, Option.map_some, kCs1_ap, kCs2_ap, kBlt_ap, sb_abs, sb_max, kCmp1_ap, ev_op, kOp1_ap, kOp2_ap, so_pow, hp40, iff_t, kCmp2_ap, sc_lt]
      rfl) (fun q hq _ => by simp only [wipeD, List.set, asg_nm, Option.bind_some, ev_var, lk_zero, lk_succ])]
    simp only [Option.bind_some, kNew_ap, new_f (show ((qs.filter small).map fr).length ≤ lim by rw [List.length_map]; exact lim64 (Nat.le_trans (List.length_filter_le _ _) (by omega))), kSetc_ap, List.set]
  exact ⟨qs.filter small, My, fun y hy => qL y (List.mem_filter.mp hy).1, Nat.le_trans (List.length_filter_le _ _) hql, ⟨hSy.len, hSy.at_, hSy.oth, hSy.bst.mono (by omega)⟩, some (.lst (rs.map fr)), fun r => (seq_nx s1).trans <| (seq_nx s2).trans (seq_nx s3)⟩
end
end X

set_option maxRecDepth 100000
namespace X
open DL PySem
section
variable {f b c : Nat} {M : Mm}
/-- the loop over the offers -/
theorem off_loop {M : Mm} {d : D} {cs : List Cos} (hd : Li M d (cs.map cosD)) (h : ∀ c ∈ cs, Wf c) (hne : cs ≠ []) (hl : cs.length ≤ 3) (hf : 12 ≤ f) {x0 x2 x4 x5 x6 x8 x9 x10 x11 x12 : Option D} :
    ∀ (ys : List Rat) (t : Int) (x7 : Option D), (∀ y ∈ ys, L 10 y) → ∃ t' x7', forGo (exS (callN defs f) (.seq (.ite (.not (.call 63 (.cons (.var 3) (.cons (.var 7) (.cons (.var 1) .nil))))) (.seq (.ret (.con (.bl false))) .nil) .nil) (.seq (.set (.nm 1) (.op .sub false (.con (.int 1)) (.var 1))) .nil))) (.nm 7) [] (ys.map fr)
        [x0, some (.int t), x2, some d, x4, x5, x6, x7, x8, x9, x10, x11, x12] M = some (.nx, [x0, some (.int t'), x2, some d, x4, x5, x6, x7', x8, x9, x10, x11, x12], M)
  | [], t, x7, _ => ⟨t, x7, by simp⟩
  | y :: ys, t, x7, hy => by
    obtain ⟨t', x7', e⟩ := off_loop hd h hne hl hf (x0 := x0) (x2 := x2) (x4 := x4) (x5 := x5) (x6 := x6) (x8 := x8) (x9 := x9) (x10 := x10) (x11 := x11) (x12 := x12) ys (1 - t) (some (fr y)) fun z m => hy z (List.mem_cons_of_mem _ m)
    refine ⟨t', x7', ?_⟩
    rw [List.map_cons, for_cons, ← e]
    simp only [asg_nm, Option.bind_some, kTurn_ap, List.set, ex_seq, ex_ite, et_not, et_call, ev_call, es_cons, es_nil, ev_var, lk_zero, lk_succ, kCs1_ap, kCs2_ap, kCall_ap]
    rw [(m_llist hd h hne hl (hy y List.mem_cons_self) (by decide) (by decide)).at hf]
    simp only [Option.bind_some, kTr_ap, tr_bl, Option.map_some, kNotT_ap, Bool.not_true, kIf_f, DL.ex_nil, kSq_nx, ex_seq, ex_set, ev_op, ev_con, kOp1_ap, ev_var, lk_zero, lk_succ, kOp2_ap, so_sub, kSet_ap, asg_nm, List.set, kLoop_nx]
theorem at_pick {cs : List Cos} {i : Int} (h0 : 0 ≤ i) (h1 : i < cs.length) : ∃ p ∈ cs, L2.atI (cs.map cosD) i = some (cosD p) := by
  obtain ⟨k, rfl⟩ : ∃ k : Nat, i = k := ⟨i.toNat, by omega⟩
  have hk : k < cs.length := by omega
  exact ⟨cs[k], List.getElem_mem hk, at_nat (by rw [List.getElem?_map, List.getElem?_eq_getElem hk]; rfl)⟩
theorem m_lcell (hf : 18 ≤ f) (hB : Bst M b c) (hc : c ≤ 100) : ∃ M', M'.length = M.length ∧ callN defs f i__law_cell_right [.ref b] M = some (.bl true, M') := by
  obtain ⟨f, rfl⟩ : ∃ j, f = j + 1 := ⟨f - 1, by omega⟩
  have hbl := hB.lt
  obtain ⟨t0, M1, t00, t01, mv1, e1⟩ := take_ev (f := f) (env := [some (.ref b), none, none, none, none, none, none, none, none, none, none, none, none]) (many := 2) hB (by omega) (by decide) (by decide) (by omega) rfl
  obtain ⟨i0, M2, i00, i01, mv2, e2⟩ := take_ev (f := f) (env := [some (.ref b), none, none, none, none, none, none, none, none, none, none, none, none]) (many := 3) mv1.bst (by omega) (by decide) (by decide) (by omega) rfl
  obtain ⟨u, hau, hu⟩ := at_unit i00 i01
  have hp20 : CPowB 10 20 = true := by decide
  have s1 : exS (callN defs f) (.set (.cons (.nm 1) (.cons (.nm 2) .nil)) (.tup (.cons (.call 44 (.cons (.var 0) (.cons (.con (.int 2)) .nil))) (.cons (.idx (.lis false (.cons (.con (.int 1)) (.cons (.con (.int 1)) (.cons (.op .pow false (.con (.int 10)) (.con (.int 20))) .nil)))) (.call 44 (.cons (.var 0) (.cons (.con (.int 3)) .nil)))) .nil)))) [some (.ref b), none, none, none, none, none, none, none, none, none, none, none, none] M
      = some (.nx, [some (.ref b), some (.int t0), some (.int u), none, none, none, none, none, none, none, none, none, none], M2) := by
    rw [ex_set, ev_tup, es_cons, e1]
    simp only [Option.bind_some, kCs1_ap]
    rw [es_cons, ev_idx]
    simp only [ev_lis, es_cons, ev_con, ev_op, Option.bind_some, kCs1_ap, kOp1_ap, kOp2_ap, so_pow, hp20, iff_t, es_nil, kCs2_ap, kLis_ap]
    rw [new_f (show [D.int 1, .int 1, .int (10 ^ (20 : Int).toNat)].length ≤ lim from lim3)]
    simp only [Option.bind_some, kIx1_ap]
    rw [e2]
    simp only [Option.bind_some, kIx2_ap, ix_lst, hau, Option.map_some, kCs1_ap, es_nil, kCs2_ap, kTup_ap, List.length_cons, List.length_nil, Nat.zero_add, Nat.reduceAdd, lim2, if_true, kSet_ap, asg_cons, asg_nm, asg_nil, List.set]
  have mv12 := mv1.trans mv2
  have hM2 : M2.length = M.length := mv12.len
  have hb2 : b < M2.length := by omega
  obtain ⟨cs, M3, hg, h1, h3, hS3, e3⟩ := cell_cs (f := f) (by omega) mv2.bst (by omega) hu (x1 := some (.int t0))
  obtain ⟨ys, M4, hy, hyl, hS4, x4, e4⟩ := cell_off (f := f) (by omega) hg h1 h3 hS3 hb2 (by omega) hu (x1 := some (.int t0))
  have hw := hg.wf
  have hne : cs ≠ [] := List.length_pos_iff.mp (by omega)
  obtain ⟨src, hit, hchk⟩ := hS4.li.sl.it
  -- each box
  have hfor : ∀ o, ∃ o', forGo (exS (callN defs f) (.seq (.ite (.not (.call 64 (.cons (.var 6) (.cons (.var 1) .nil)))) (.seq (.ret (.con (.bl false))) .nil) .nil) .nil)) (.nm 6) src (cs.map cosD)
      [some (.ref b), some (.int t0), some (.int u), some (.ref M2.length), x4, some (.lst (ys.map fr)), o, none, none, none, none, none, none] M4
      = some (.nx, [some (.ref b), some (.int t0), some (.int u), some (.ref M2.length), x4, some (.lst (ys.map fr)), o', none, none, none, none, none, none], M4) := fun o =>
    for_same hchk cosD (fun o => [some (.ref b), some (.int t0), some (.int u), some (.ref M2.length), x4, some (.lst (ys.map fr)), o, none, none, none, none, none, none]) cs o fun p hp o => ⟨rfl, by
      simp only [ex_seq, ex_ite, et_not, et_call, ev_call, es_cons, es_nil, ev_var, lk_zero, lk_succ, Option.bind_some, kCs1_ap, kCs2_ap, kCall_ap]
      rw [(pu_lsingle (hw p hp)).at _ (by omega)]
      rfl⟩
  obtain ⟨x6, e5⟩ := hfor none
  have s5 : exS (callN defs f) (.for_ (.nm 6) (.iseq (.var 3)) (.seq (.ite (.not (.call 64 (.cons (.var 6) (.cons (.var 1) .nil)))) (.seq (.ret (.con (.bl false))) .nil) .nil) .nil)) [some (.ref b), some (.int t0), some (.int u), some (.ref M2.length), x4, some (.lst (ys.map fr)), none, none, none, none, none, none, none] M4
      = some (.nx, [some (.ref b), some (.int t0), some (.int u), some (.ref M2.length), x4, some (.lst (ys.map fr)), x6, none, none, none, none, none, none], M4) := by
    rw [ex_for]
    simp only [ei_seq, ev_var, lk_zero, lk_succ, Option.bind_some, kSeq_ap, hit, Option.map_some, kFor_ap]
    exact e5
  obtain ⟨t', x7, e6⟩ := off_loop (f := f) hS4.li hw hne h3 (by omega) (x0 := some (.ref b)) (x2 := some (.int u)) (x4 := x4) (x5 := some (.lst (ys.map fr))) (x6 := x6) (x8 := none) (x9 := none) (x10 := none) (x11 := none) (x12 := none) ys t0 none hy
  have s6 : exS (callN defs f) (.for_ (.nm 7) (.iseq (.var 5)) (.seq (.ite (.not (.call 63 (.cons (.var 3) (.cons (.var 7) (.cons (.var 1) .nil))))) (.seq (.ret (.con (.bl false))) .nil) .nil) (.seq (.set (.nm 1) (.op .sub false (.con (.int 1)) (.var 1))) .nil))) [some (.ref b), some (.int t0), some (.int u), some (.ref M2.length), x4, some (.lst (ys.map fr)), x6, none, none, none, none, none, none] M4
      = some (.nx, [some (.ref b), some (.int t'), some (.int u), some (.ref M2.length), x4, some (.lst (ys.map fr)), x6, x7, none, none, none, none, none], M4) := by
    rw [ex_for]
    simp only [ei_seq, ev_var, lk_zero, lk_succ, Option.bind_some, kSeq_ap, it_lst, Option.map_some, kFor_ap]
    exact e6
  have hc0 : cs[0]? = some cs[0] := List.getElem?_eq_getElem (by omega)
  have hg0 := hg cs[0] (List.getElem_mem _)
  have hix0 : ∀ Mx c', Sx M2 b c' cs Mx → semIx Mx (.ref M2.length) (.int 0) = some (cosD cs[0]) := fun Mx c' h => by
    rw [h.li.sl.ix]
    exact at_nat (n := 0) (by rw [List.getElem?_map, hc0]; rfl)
  have s7 : exS (callN defs f) (.par [8, 9] (.cons (.idx (.var 3) (.con (.int 0))) (.cons (.idx (.idx (.var 3) (.con (.int 0))) (.con (.int 0))) .nil))) [some (.ref b), some (.int t'), some (.int u), some (.ref M2.length), x4, some (.lst (ys.map fr)), x6, x7, none, none, none, none, none] M4
      = some (.nx, [some (.ref b), some (.int t'), some (.int u), some (.ref M2.length), x4, some (.lst (ys.map fr)), x6, x7, some (cosD cs[0]), some (fr cs[0].1), none, none, none], M4) := by
    simp only [ex_par, es_cons, es_nil, ev_idx, ev_var, ev_con, lk_zero, lk_succ, Option.bind_some, kIx1_ap, kIx2_ap, hix0 M4 _ hS4, Option.map_some, kCs1_ap, ix_cos0, kCs2_ap, kPar_ap, sets_cons, sets_nil, List.set]
  obtain ⟨dr, M5, d1, d2, mv5, e8⟩ := m_lcostly (f := f) (by omega) hS4.bst (by omega) hu
  have hS5 := hS4.mv hb2 mv5
  have s8 : exS (callN defs f) (.set (.nm 10) (.call 62 (.cons (.var 0) (.cons (.var 2) .nil)))) [some (.ref b), some (.int t'), some (.int u), some (.ref M2.length), x4, some (.lst (ys.map fr)), x6, x7, some (cosD cs[0]), some (fr cs[0].1), none, none, none] M4
      = some (.nx, [some (.ref b), some (.int t'), some (.int u), some (.ref M2.length), x4, some (.lst (ys.map fr)), x6, x7, some (cosD cs[0]), some (fr cs[0].1), some (cosD dr), none, none], M5) := by
    simp only [ex_set, ev_call, es_cons, es_nil, ev_var, lk_zero, lk_succ, Option.bind_some, kCs1_ap, kCs2_ap, kCall_ap]
    rw [show (62 : Nat) = i__law_costly from rfl, e8]
    rfl
  obtain ⟨i9, M6, i90, i91, mv6, e9⟩ := take_ev (f := f) (env := [some (.ref b), some (.int t'), some (.int u), some (.ref M2.length), x4, some (.lst (ys.map fr)), x6, x7, some (cosD cs[0]), some (fr cs[0].1), some (cosD dr), none, none]) (many := 4) hS5.bst (by omega) (by decide) (by decide) (by omega) rfl
  have hS6 := hS5.mv hb2 mv6
  obtain ⟨up1, up2⟩ := cst_up hg0.1 hu
  obtain ⟨hf1, hf2⟩ := cst_half hg0.1
  have hw0 := hw cs[0] (List.getElem_mem _)
  have lu : L 1 (mkRat u 2) := mk_L (by decide) (by decide) (by
    have := hu.small (i := 1) (by decide)
    rwa [Int.one_mul] at this)
  obtain ⟨nw, hnm, hat⟩ := at_pick (cs := [dr, (cs[0].1 + mkRat u 2, cs[0].2), (mkRat cs[0].1.num (2 * cs[0].1.den), cs[0].2), (cs[0].1, dr.2)]) i90 i91
  have hwn : Wf nw := by
    simp at hnm
    rcases hnm with rfl | rfl | rfl | rfl
    · exact wf_of d1 d2
    · exact wf_of2 up1 up2 hg0.2
    · exact wf_of2 hf1 hf2 hg0.2
    · exact wf_of2 hw0.lc hw0.pos d2
  have hden : (2 * cs[0].1.den).log2 < 9000 := by
    have h1 := log2_mul 2 cs[0].1.den
    have h2 := (hw0.lc.ok (by decide)).d
    have : Nat.log2 2 = 1 := by decide +kernel
    omega
  have mb2 : mulB 2 (cs[0].1.den : Nat) = true := mulB_ok (by decide +kernel) (by
    have := (hw0.lc.ok (by decide)).d
    simp only [Int.natAbs_natCast]; omega)
  have s9 : exS (callN defs f) (.set (.nm 11) (.idx (.lis false (.cons (.var 10) (.cons (.tup (.cons (.call 47 (.cons (.var 9) (.cons (.call 46 (.cons (.var 2) (.cons (.con (.int 2)) .nil))) .nil))) (.cons (.idx (.var 8) (.con (.int 1))) .nil))) (.cons (.tup (.cons (.call 46 (.cons (.idx (.var 9) (.con (.int 0))) (.cons (.op .mul false (.con (.int 2)) (.idx (.var 9) (.con (.int 1)))) .nil))) (.cons (.idx (.var 8) (.con (.int 1))) .nil))) (.cons (.tup (.cons (.var 9) (.cons (.idx (.var 10) (.con (.int 1))) .nil))) .nil))))) (.call 44 (.cons (.var 0) (.cons (.con (.int 4)) .nil))))) [some (.ref b), some (.int t'), some (.int u), some (.ref M2.length), x4, some (.lst (ys.map fr)), x6, x7, some (cosD cs[0]), some (fr cs[0].1), some (cosD dr), none, none] M5
      = some (.nx, [some (.ref b), some (.int t'), some (.int u), some (.ref M2.length), x4, some (.lst (ys.map fr)), x6, x7, some (cosD cs[0]), some (fr cs[0].1), some (cosD dr), some (cosD nw), none], M6) := by
    rw [ex_set, ev_idx, ev_lis]
    simp only [es_cons, es_nil, ev_tup, ev_call, ev_var, ev_con, lk_zero, lk_succ, Option.bind_some, kCs1_ap, kCs2_ap, kCall_ap]
    rw [(pu_law_low (n := u) (b := 2) (d := 2) rfl (by decide) (by decide +kernel)).at _ (by omega)]
    simp only [Option.bind_some, kCs1_ap, es_nil, kCs2_ap, kCall_ap]
    rw [(pu_lplus (hw0.lc.ok (by decide)) (lu.ok (by decide))).at _ (by omega)]
    simp only [Option.bind_some, kCs1_ap, es_cons, es_nil, ev_idx, ev_op, ev_var, ev_con, lk_zero, lk_succ, kIx1_ap, kIx2_ap, ix_cos1, ix_fr0, ix_fr1, Option.map_some, kCs2_ap, kTup_ap, List.length_cons, List.length_nil, Nat.zero_add, Nat.reduceAdd, lim2, if_true, ev_tup, ev_call, kOp1_ap, kOp2_ap, so_mul, mb2, iff_t, kCall_ap]
    rw [(pu_law_low (n := cs[0].1.num) (b := (2 : Int) * ((cs[0].1.den : Nat) : Int)) (d := 2 * cs[0].1.den) (by omega) (by have := cs[0].1.den_pos; omega) hden).at _ (by omega)]
    simp only [Option.bind_some, kCs1_ap, es_cons, es_nil, ev_idx, ev_var, ev_con, lk_zero, lk_succ, kIx1_ap, kIx2_ap, ix_cos1, Option.map_some, kCs2_ap, kTup_ap, List.length_cons, List.length_nil, Nat.zero_add, Nat.reduceAdd, lim2, if_true, ev_tup, kLis_ap]
    rw [new_f (show [cosD dr, D.tup [fr (cs[0].1 + mkRat u 2), boxD cs[0].2], D.tup [fr (mkRat cs[0].1.num (2 * cs[0].1.den)), boxD cs[0].2], D.tup [fr cs[0].1, boxD dr.2]].length ≤ lim from lim4)]
    simp only [Option.bind_some, kIx1_ap, ← ev_call, es_cons]
    have e9' := e9
    simp only [ev_call, es_cons, es_nil, ev_var, ev_con, lk_zero, lk_succ, Option.bind_some, kCs1_ap, kCs2_ap, kCall_ap] at e9' ⊢
    rw [e9']
    simp only [Option.bind_some, kIx2_ap, ix_lst]
    rw [show L2.atI [cosD dr, D.tup [fr (cs[0].1 + mkRat u 2), boxD cs[0].2], D.tup [fr (mkRat cs[0].1.num (2 * cs[0].1.den)), boxD cs[0].2], D.tup [fr cs[0].1, boxD dr.2]] i9 = some (cosD nw) from hat]
    simp only [Option.map_some, Option.bind_some, kSet_ap, asg_nm, List.set]
  have hlo : lstOf M6 (.ref M2.length) = some (cs.map cosD) := by simp [lstOf, hS6.at_]
  have hsl1 : semSl false M6 (.ref M2.length) [.int 1] [] = some (.lst ((cs.drop 1).map cosD), M6) := by
    simp only [semSl, optI, Option.bind_eq_bind, Option.bind_some, hlo]
    rw [show (some (1 : Int)) = some ((1 : Nat) : Int) from rfl, cut_hi (by rw [List.length_map]; exact h1), ← List.map_drop]
    exact new_f (by rw [List.length_map, List.length_drop]; exact lim64 (by omega))
  have hsl2 : semSl false M6 (.lst (ys.map fr)) [] [.int 3] = some (.lst ((ys.take (min 3 (ys.map fr).length)).map fr), M6) := by
    simp only [semSl, optI, Option.bind_eq_bind, Option.bind_some, lo_lst]
    rw [cut_3, ← List.map_take]
    exact new_f (by rw [List.length_map, List.length_take]; exact lim64 (by omega))
  generalize min 3 (ys.map fr).length = ny at hsl2
  have hod : ∀ c ∈ cs.drop 1, Wf c := fun c m => hw c (List.mem_of_mem_drop m)
  have hol : (cs.drop 1).length ≤ 2 := by rw [List.length_drop]; omega
  have hyt : ∀ y ∈ ys.take ny, L 10 y := fun y m => hy y (List.mem_of_mem_take m)
  have s10 : exS (callN defs f) (.ret (.and (.call 65 (.cons (.var 0) (.cons (.var 8) (.cons (.var 11) (.cons (.sli false (.var 3) (.cons (.con (.int 1)) .nil) .nil) (.cons (.sli false (.var 5) .nil (.cons (.con (.int 3)) .nil)) (.cons (.var 1) .nil))))))) (.one (.call 65 (.cons (.var 0) (.cons (.var 11) (.cons (.var 8) (.cons (.sli false (.var 3) (.cons (.con (.int 1)) .nil) .nil) (.cons (.sli false (.var 5) .nil (.cons (.con (.int 3)) .nil)) (.cons (.op .sub false (.con (.int 1)) (.var 1)) .nil)))))))))) [some (.ref b), some (.int t'), some (.int u), some (.ref M2.length), x4, some (.lst (ys.map fr)), x6, x7, some (cosD cs[0]), some (fr cs[0].1), some (cosD dr), some (cosD nw), none] M6
      = some (.rt (.bl true), [some (.ref b), some (.int t'), some (.int u), some (.ref M2.length), x4, some (.lst (ys.map fr)), x6, x7, some (cosD cs[0]), some (fr cs[0].1), some (cosD dr), some (cosD nw), none], M6) := by
    simp only [ex_ret, ev_and, ev_call, es_cons, es_nil, ev_sli, ev_var, ev_con, lk_zero, lk_succ, Option.bind_some, kCs1_ap, kCs2_ap, kSl1_ap, kSl2_ap, kSl3_ap, hsl1, hsl2, kCall_ap]
    rw [(m_lharm hw0 hwn hod hol hyt (by decide) (by decide)).at (by omega)]
    simp only [Option.bind_some, kAnd_t, ev_one, ev_call, es_cons, es_nil, ev_sli, ev_op, ev_var, ev_con, lk_zero, lk_succ, kCs1_ap, kCs2_ap, kSl1_ap, kSl2_ap, kSl3_ap, hsl1, hsl2, kOp1_ap, kOp2_ap, so_sub, kCall_ap]
    rw [(m_lharm hwn hw0 hod hol hyt (by decide) (by decide)).at (by omega)]
    rfl
  have run := (seq_nx s1).trans <| (e3 _).trans <| (e4 _).trans <| (seq_nx s5).trans <| (seq_nx s6).trans <| (seq_nx s7).trans <| (seq_nx s8).trans <| (seq_nx s9).trans <| seq_rt (r := .nil) s10
  have hl6 : M6.length = M.length + 1 := by rw [hS6.len, hM2]
  have ok : okTake M M6 = true := by
    unfold okTake
    rw [List.all_eq_true]
    intro i hi
    have hi' := List.mem_range.mp hi
    by_cases hib : i = b
    · subst hib
      obtain ⟨a, g, m, k, q1, _⟩ := hS6.bst.ex
      rw [q1]
      simp [clO, cls, cl]
    · rw [hS6.oth i (by omega) hib, mv12.oth i hib]
      simp
  refine ⟨M6.take M.length, by rw [List.length_take, hl6]; omega, ?_⟩
  have hd : defs[i__law_cell_right]? = some ⟨1, 13, true, b__law_cell_right⟩ := rfl
  have run' : exS (callN defs f) b__law_cell_right ([D.ref b].map some ++ List.replicate (13 - 1) none) M = _ := run
  have hl : ¬ M6.length ≤ M.length := by omega
  simp only [callN, hd, List.length_cons, List.length_nil, Nat.zero_add, show (1 : Nat) ≤ 13 from by decide, and_self, if_true, run', retOf, if_neg hl, ok, frz_cl (k := 7) (show cl M.length (.bl true) = true from rfl), Option.map_some]
end
/-! ### the law -/
theorem fz_len {M : Mm} {m : Bool} {ns : List Int} (h : ns.length ≤ 63) : semB .len m [.fz (ns.map D.int)] M = some (.int (ns.length : Nat), M) := by
  simp only [semB, seqOf, Option.bind_eq_bind, Option.bind_some, List.length_map]
  rw [if_pos (lim64 (by omega))]
theorem cell_val {f : Nat} {M : Mm} {ns : List Int} {k : Nat} (hn : ns.length ≤ 63) (hf : 1 ≤ f) (hk : k ≤ 10) : ∃ x : Int, callN defs f i__law_cell [.fz (ns.map D.int), .int (k : Nat)] M = some (.int x, M) := by
  obtain ⟨f, rfl⟩ : ∃ j, f = j + 1 := ⟨f - 1, by omega⟩
  have hcut : ∃ k, cutD (ns.map D.int) none (some 1) = (ns.take k).map D.int := by
    unfold cutD
    rw [HT.sIx_none]
    exact ⟨_, by rw [List.drop_zero, ← List.map_take]⟩
  obtain ⟨j, hj⟩ := hcut
  have hsl : semSl false M (.fz (ns.map D.int)) [] [.int 1] = some (.lst ((ns.take j).map D.int), M) := by
    simp only [semSl, optI, Option.bind_eq_bind, Option.bind_some]
    rw [hj]
    exact new_f (by rw [List.length_map, List.length_take]; exact lim64 (by omega))
  have mb : mulB 4721 (k : Nat) = true := mulB_ok (by decide +kernel) (by
    have := log2_mono (show ((k : Nat) : Int).natAbs ≤ 16 by omega)
    have : Nat.log2 16 = 4 := by decide +kernel
    omega)
  by_cases hlt : ((k : Nat) : Int) < ((ns.length : Nat) : Int)
  · have hk' : k < ns.length := by omega
    have hix : semIx M (.fz (ns.map D.int)) (.int (k : Nat)) = some (.int ns[k]) := by
      have : semIx M (.fz (ns.map D.int)) (.int (k : Nat)) = L2.atI (ns.map D.int) (k : Nat) := by simp [semIx, dicOf, seqOf, intOf]
      rw [this]
      exact at_nat (by rw [List.getElem?_map, List.getElem?_eq_getElem hk']; rfl)
    refine ⟨ns[k], run_call (df := ⟨2, 2, true, b__law_cell⟩) (env' := [some (.fz (ns.map D.int)), some (.int (k : Nat))]) rfl ⟨rfl, by decide⟩ rfl (seq_rt ?_)⟩
    show exS (callN defs f) _ [some (.fz (ns.map D.int)), some (.int (k : Nat))] M = _
    simp only [ex_ret, ev_ite, et_cmp, ev_var, lk_zero, lk_succ, Option.bind_some, kCmp1_ap, ev_blt, es_cons, es_nil, kCs1_ap, kCs2_ap, kBlt_ap, fz_len hn, kCmp2_ap, sc_lt, decide_eq_true hlt, Option.map_some, kIte_t, ev_idx, kIx1_ap, kIx2_ap, hix, kRet_ap]
  · refine ⟨4721 * (k : Nat) + (ns.take j).sum % 1000003, run_call (df := ⟨2, 2, true, b__law_cell⟩) (env' := [some (.fz (ns.map D.int)), some (.int (k : Nat))]) rfl ⟨rfl, by decide⟩ rfl (seq_rt ?_)⟩
    show exS (callN defs f) _ [some (.fz (ns.map D.int)), some (.int (k : Nat))] M = _
    simp only [ex_ret, ev_ite, et_cmp, ev_var, lk_zero, lk_succ, Option.bind_some, kCmp1_ap, ev_blt, es_cons, es_nil, kCs1_ap, kCs2_ap, kBlt_ap, fz_len hn, kCmp2_ap, sc_lt, decide_eq_false hlt, Option.map_some, kIte_f, ev_op, ev_con, kOp1_ap, kOp2_ap, so_mul, mb, iff_t, ev_sli, kSl1_ap, kSl2_ap, kSl3_ap, hsl, sum_ints, sb_int, so_mod, show decide ((0 : Int) < 1000003) = true from rfl, so_add, kRet_ap]
theorem box_val {f : Nat} {M : Mm} {x : Int} (hf : 1 ≤ f) : ∃ ds, Bst (M ++ [.lst ds]) M.length 0 ∧ callN defs f i__law_box [.int x] M = some (.ref M.length, M ++ [.lst ds]) := by
  obtain ⟨f, rfl⟩ : ∃ j, f = j + 1 := ⟨f - 1, by omega⟩
  have hp18 : CPowB 10 18 = true := by decide
  refine ⟨[.int (if x < 0 then -x else x), .bl (decide (10 ^ (18 : Int).toNat ≤ (if x < 0 then -x else x))), .int ((if x < 0 then -x else x) % 2147483629), .int 0], ⟨⟨_, _, _, _, get_last, Int.emod_nonneg _ (by decide), Int.emod_lt_of_pos _ (by decide), by decide, by decide⟩⟩, ?_⟩
  have run : exS (callN defs f) b__law_box [some (.int x)] M = some (.rt (.ref M.length), [some (.int x)], M ++ [.lst [.int (if x < 0 then -x else x), .bl (decide (10 ^ (18 : Int).toNat ≤ (if x < 0 then -x else x))), .int ((if x < 0 then -x else x) % 2147483629), .int 0]]) := by
    simp only [b__law_box, ex_seq, ex_ret, ev_lis, es_cons, es_nil, ev_blt, ev_var, lk_zero, Option.bind_some, kCs1_ap, kCs2_ap, kBlt_ap, sb_abs, ev_cmp, et_cmp, kCmp1_ap, ev_op, ev_con, kOp1_ap, kOp2_ap, so_pow, hp18, iff_t, kCmp2_ap, sc_ge, Option.map_some, kBl_ap, sb_int, so_mod, show decide ((0 : Int) < 2147483629) = true from rfl, kLis_ap]
    rw [new_t (lim64 (by simp))]
    rfl
  show (match exS (callN defs f) b__law_box [some (.int x)] M with | some (.rt d, _, M') => retOf false M d M' | some (.nx, _, M') => retOf false M .non M' | _ => none) = _
  rw [run]
  simp [retOf]
theorem pure_law (ns : List Int) (h : ns.length ≤ 63) : ∃ M', callN defs 20 67 [.fz (ns.map D.int)] [] = some (.bl true, M') := by
  have loop : ∀ (ks : List Nat) (M : Mm) (x1 : Option D), (∀ k ∈ ks, k ≤ 10) → ∃ M' x1', forGo (exS (callN defs 19) (.seq (.ite (.not (.call 66 (.cons (.call 43 (.cons (.call 42 (.cons (.var 0) (.cons (.var 1) .nil))) .nil)) .nil))) (.seq (.ret (.con (.bl false))) .nil) .nil) .nil)) (.nm 1) [] (ks.map fun i : Nat => D.int (i : Nat)) [some (.fz (ns.map D.int)), x1] M
      = some (.nx, [some (.fz (ns.map D.int)), x1'], M') := by
    intro ks
    induction ks with
    | nil => intro M x1 _; exact ⟨M, x1, by simp⟩
    | cons k ks ih =>
      intro M x1 hk
      obtain ⟨x, ex⟩ := cell_val (f := 19) (M := M) h (by decide) (hk k List.mem_cons_self)
      obtain ⟨ds, hB, eb⟩ := box_val (f := 19) (M := M) (x := x) (by decide)
      obtain ⟨M1, hl1, ec⟩ := m_lcell (f := 19) (by decide) hB (by decide)
      obtain ⟨M', x1', e⟩ := ih M1 (some (.int (k : Nat))) fun j m => hk j (List.mem_cons_of_mem _ m)
      refine ⟨M', x1', ?_⟩
      rw [List.map_cons, for_cons, ← e]
      simp only [asg_nm, Option.bind_some, kTurn_ap, List.set, ex_seq, ex_ite, et_not, et_call, ev_call, es_cons, es_nil, ev_var, lk_zero, lk_succ, kCs1_ap, kCs2_ap, kCall_ap]
      rw [show (42 : Nat) = i__law_cell from rfl, ex]
      simp only [Option.bind_some, kCs1_ap, es_nil, kCs2_ap, kCall_ap]
      rw [show (43 : Nat) = i__law_box from rfl, eb]
      simp only [Option.bind_some, kCs1_ap, es_nil, kCs2_ap, kCall_ap]
      rw [show (66 : Nat) = i__law_cell_right from rfl, ec]
      simp only [Option.bind_some, kTr_ap, tr_bl, Option.map_some, kNotT_ap, Bool.not_true, kIf_f, DL.ex_nil, kSq_nx, kLoop_nx]
  have hrng : ∃ j : Nat, j ≤ 3 ∧ evIt (callN defs 19) (.irange1 (.blt .max2 false (.cons (.con (.int 2)) (.cons (.blt .min2 false (.cons (.con (.int 3)) (.cons (.blt .len false (.cons (.var 0) .nil)) .nil))) .nil)))) [some (.fz (ns.map D.int)), none] [] = some (⟨[], (List.range j).map fun i : Nat => D.int (i : Nat)⟩, []) := by
    have hz : ∃ z : Int, 0 ≤ z ∧ z ≤ 3 ∧ (if (if ((ns.length : Nat) : Int) < 3 then ((ns.length : Nat) : Int) else 3) > 2 then (if ((ns.length : Nat) : Int) < 3 then ((ns.length : Nat) : Int) else 3) else 2) = z := ⟨_, by split <;> split <;> omega, by split <;> split <;> omega, rfl⟩
    obtain ⟨z, z0, z3, ez⟩ := hz
    refine ⟨z.toNat, by omega, ?_⟩
    simp only [ei_r1, ev_blt, es_cons, es_nil, ev_con, ev_var, lk_zero, Option.bind_some, kCs1_ap, kCs2_ap, kBlt_ap, fz_len h, sb_min, sb_max, ez, kR1_ap]
    rw [if_pos (in62_small z0 (by omega)), range_map]
  obtain ⟨j, hj, er⟩ := hrng
  obtain ⟨M', x1', e⟩ := loop (List.range j) [] none fun k hk => by have := List.mem_range.mp hk; omega
  have s1 : exS (callN defs 19) (.for_ (.nm 1) (.irange1 (.blt .max2 false (.cons (.con (.int 2)) (.cons (.blt .min2 false (.cons (.con (.int 3)) (.cons (.blt .len false (.cons (.var 0) .nil)) .nil))) .nil)))) (.seq (.ite (.not (.call 66 (.cons (.call 43 (.cons (.call 42 (.cons (.var 0) (.cons (.var 1) .nil))) .nil)) .nil))) (.seq (.ret (.con (.bl false))) .nil) .nil) .nil)) [some (.fz (ns.map D.int)), none] []
      = some (.nx, [some (.fz (ns.map D.int)), x1'], M') := by
    rw [ex_for, er]
    exact e
  have run : exS (callN defs 19) b_law [some (.fz (ns.map D.int)), none] [] = some (.rt (.bl true), [some (.fz (ns.map D.int)), x1'], M') := (seq_nx s1).trans (seq_rt rfl)
  show ∃ M', (match exS (callN defs 19) b_law [some (.fz (ns.map D.int)), none] [] with | some (.rt d, _, M') => retOf true [] d M' | some (.nx, _, M') => retOf true [] .non M' | _ => none) = _
  rw [run]
  by_cases hl : M'.length ≤ 0
  · exact ⟨M', by simp [retOf, hl]⟩
  · refine ⟨M'.take 0, ?_⟩
    have ok : okTake [] M' = true := rfl
    simp only [retOf, List.length_nil, if_neg hl, if_true, ok, frz_cl (k := 7) (show cl 0 (.bl true) = true from rfl), Option.map_some]
end X

set_option maxRecDepth 100000
set_option maxHeartbeats 0
namespace X
open PySem PySem.Spec PyProof.Rows L2 DL

theorem chk0 : DL.chkSs tab N0 b_is_integer (defScope s0) (defBody s0) = true := by decide +kernel
theorem sc0 : FnScope N0 P0 (defScope s0) := ⟨rfl, rfl, rfl, by decide +kernel, rfl, by decide +kernel, by decide +kernel⟩
theorem chk1 : DL.chkSs tab N1 b_is_index (defScope s1) (defBody s1) = true := by decide +kernel
theorem sc1 : FnScope N1 P1 (defScope s1) := ⟨rfl, rfl, rfl, by decide +kernel, rfl, by decide +kernel, by decide +kernel⟩
theorem chk2 : DL.chkSs tab N2 b_is_list (defScope s2) (defBody s2) = true := by decide +kernel
theorem sc2 : FnScope N2 P2 (defScope s2) := ⟨rfl, rfl, rfl, by decide +kernel, rfl, by decide +kernel, by decide +kernel⟩
theorem chk3 : DL.chkSs tab N3 b_is_tuple (defScope s3) (defBody s3) = true := by decide +kernel
theorem sc3 : FnScope N3 P3 (defScope s3) := ⟨rfl, rfl, rfl, by decide +kernel, rfl, by decide +kernel, by decide +kernel⟩
theorem chk4 : DL.chkSs tab N4 b_reduced (defScope s4) (defBody s4) = true := by decide +kernel
theorem sc4 : FnScope N4 P4 (defScope s4) := ⟨rfl, rfl, rfl, by decide +kernel, rfl, by decide +kernel, by decide +kernel⟩
theorem chk5 : DL.chkSs tab N5 b_is_fraction (defScope s5) (defBody s5) = true := by decide +kernel
theorem sc5 : FnScope N5 P5 (defScope s5) := ⟨rfl, rfl, rfl, by decide +kernel, rfl, by decide +kernel, by decide +kernel⟩
theorem chk6 : DL.chkSs tab N6 b_add (defScope s6) (defBody s6) = true := by decide +kernel
theorem sc6 : FnScope N6 P6 (defScope s6) := ⟨rfl, rfl, rfl, by decide +kernel, rfl, by decide +kernel, by decide +kernel⟩
theorem chk7 : DL.chkSs tab N7 b_subtract (defScope s7) (defBody s7) = true := by decide +kernel
theorem sc7 : FnScope N7 P7 (defScope s7) := ⟨rfl, rfl, rfl, by decide +kernel, rfl, by decide +kernel, by decide +kernel⟩
theorem chk8 : DL.chkSs tab N8 b_multiply (defScope s8) (defBody s8) = true := by decide +kernel
theorem sc8 : FnScope N8 P8 (defScope s8) := ⟨rfl, rfl, rfl, by decide +kernel, rfl, by decide +kernel, by decide +kernel⟩
theorem chk9 : DL.chkSs tab N9 b_divide (defScope s9) (defBody s9) = true := by decide +kernel
theorem sc9 : FnScope N9 P9 (defScope s9) := ⟨rfl, rfl, rfl, by decide +kernel, rfl, by decide +kernel, by decide +kernel⟩
theorem chk10 : DL.chkSs tab N10 b_is_below (defScope s10) (defBody s10) = true := by decide +kernel
theorem sc10 : FnScope N10 P10 (defScope s10) := ⟨rfl, rfl, rfl, by decide +kernel, rfl, by decide +kernel, by decide +kernel⟩
theorem chk11 : DL.chkSs tab N11 b_greater_of (defScope s11) (defBody s11) = true := by decide +kernel
theorem sc11 : FnScope N11 P11 (defScope s11) := ⟨rfl, rfl, rfl, by decide +kernel, rfl, by decide +kernel, by decide +kernel⟩
theorem chk12 : DL.chkSs tab N12 b_greatest (defScope s12) (defBody s12) = true := by decide +kernel
theorem sc12 : FnScope N12 P12 (defScope s12) := ⟨rfl, rfl, rfl, by decide +kernel, rfl, by decide +kernel, by decide +kernel⟩
theorem chk13 : DL.chkSs tab N13 b_sum_of (defScope s13) (defBody s13) = true := by decide +kernel
theorem sc13 : FnScope N13 P13 (defScope s13) := ⟨rfl, rfl, rfl, by decide +kernel, rfl, by decide +kernel, by decide +kernel⟩
theorem chk14 : DL.chkSs tab N14 b_ascending (defScope s14) (defBody s14) = true := by decide +kernel
theorem sc14 : FnScope N14 P14 (defScope s14) := ⟨rfl, rfl, rfl, by decide +kernel, rfl, by decide +kernel, by decide +kernel⟩
theorem chk15 : DL.chkSs tab N15 b_is_box_row (defScope s15) (defBody s15) = true := by decide +kernel
theorem sc15 : FnScope N15 P15 (defScope s15) := ⟨rfl, rfl, rfl, by decide +kernel, rfl, by decide +kernel, by decide +kernel⟩
theorem chk16 : DL.chkSs tab N16 b_is_box (defScope s16) (defBody s16) = true := by decide +kernel
theorem sc16 : FnScope N16 P16 (defScope s16) := ⟨rfl, rfl, rfl, by decide +kernel, rfl, by decide +kernel, by decide +kernel⟩
theorem chk17 : DL.chkSs tab N17 b_check_box (defScope s17) (defBody s17) = true := by decide +kernel
theorem sc17 : FnScope N17 P17 (defScope s17) := ⟨rfl, rfl, rfl, by decide +kernel, rfl, by decide +kernel, by decide +kernel⟩
theorem chk18 : DL.chkSs tab N18 b_drawn_by (defScope s18) (defBody s18) = true := by decide +kernel
theorem sc18 : FnScope N18 P18 (defScope s18) := ⟨rfl, rfl, rfl, by decide +kernel, rfl, by decide +kernel, by decide +kernel⟩
theorem chk19 : DL.chkSs tab N19 b_drawn_beside (defScope s19) (defBody s19) = true := by decide +kernel
theorem sc19 : FnScope N19 P19 (defScope s19) := ⟨rfl, rfl, rfl, by decide +kernel, rfl, by decide +kernel, by decide +kernel⟩
theorem chk20 : DL.chkSs tab N20 b_at_most (defScope s20) (defBody s20) = true := by decide +kernel
theorem sc20 : FnScope N20 P20 (defScope s20) := ⟨rfl, rfl, rfl, by decide +kernel, rfl, by decide +kernel, by decide +kernel⟩
theorem chk21 : DL.chkSs tab N21 b_product_of (defScope s21) (defBody s21) = true := by decide +kernel
theorem sc21 : FnScope N21 P21 (defScope s21) := ⟨rfl, rfl, rfl, by decide +kernel, rfl, by decide +kernel, by decide +kernel⟩
theorem chk22 : DL.chkSs tab N22 b_greatest_of (defScope s22) (defBody s22) = true := by decide +kernel
theorem sc22 : FnScope N22 P22 (defScope s22) := ⟨rfl, rfl, rfl, by decide +kernel, rfl, by decide +kernel, by decide +kernel⟩
theorem chk23 : DL.chkSs tab N23 b_greatest_draw (defScope s23) (defBody s23) = true := by decide +kernel
theorem sc23 : FnScope N23 P23 (defScope s23) := ⟨rfl, rfl, rfl, by decide +kernel, rfl, by decide +kernel, by decide +kernel⟩
theorem chk24 : DL.chkSs tab N24 b_places_of (defScope s24) (defBody s24) = true := by decide +kernel
theorem sc24 : FnScope N24 P24 (defScope s24) := ⟨rfl, rfl, rfl, by decide +kernel, rfl, by decide +kernel, by decide +kernel⟩
theorem chk25 : DL.chkSs tab N25 b_is_costly_box (defScope s25) (defBody s25) = true := by decide +kernel
theorem sc25 : FnScope N25 P25 (defScope s25) := ⟨rfl, rfl, rfl, by decide +kernel, rfl, by decide +kernel, by decide +kernel⟩
theorem chk26 : DL.chkSs tab N26 b_check_costly (defScope s26) (defBody s26) = true := by decide +kernel
theorem sc26 : FnScope N26 P26 (defScope s26) := ⟨rfl, rfl, rfl, by decide +kernel, rfl, by decide +kernel, by decide +kernel⟩
theorem chk27 : DL.chkSs tab N27 b_beyond (defScope s27) (defBody s27) = true := by decide +kernel
theorem sc27 : FnScope N27 P27 (defScope s27) := ⟨rfl, rfl, rfl, by decide +kernel, rfl, by decide +kernel, by decide +kernel⟩
theorem chk28 : DL.chkSs tab N28 b_reserve_of (defScope s28) (defBody s28) = true := by decide +kernel
theorem sc28 : FnScope N28 P28 (defScope s28) := ⟨rfl, rfl, rfl, by decide +kernel, rfl, by decide +kernel, by decide +kernel⟩
theorem chk29 : DL.chkSs tab N29 b_reserve (defScope s29) (defBody s29) = true := by decide +kernel
theorem sc29 : FnScope N29 P29 (defScope s29) := ⟨rfl, rfl, rfl, by decide +kernel, rfl, by decide +kernel, by decide +kernel⟩
theorem chk30 : DL.chkSs tab N30 b_capped_by (defScope s30) (defBody s30) = true := by decide +kernel
theorem sc30 : FnScope N30 P30 (defScope s30) := ⟨rfl, rfl, rfl, by decide +kernel, rfl, by decide +kernel, by decide +kernel⟩
theorem chk31 : DL.chkSs tab N31 b_capped_of (defScope s31) (defBody s31) = true := by decide +kernel
theorem sc31 : FnScope N31 P31 (defScope s31) := ⟨rfl, rfl, rfl, by decide +kernel, rfl, by decide +kernel, by decide +kernel⟩
theorem chk32 : DL.chkSs tab N32 b_capped (defScope s32) (defBody s32) = true := by decide +kernel
theorem sc32 : FnScope N32 P32 (defScope s32) := ⟨rfl, rfl, rfl, by decide +kernel, rfl, by decide +kernel, by decide +kernel⟩
theorem chk33 : DL.chkSs tab N33 b_check_opening (defScope s33) (defBody s33) = true := by decide +kernel
theorem sc33 : FnScope N33 P33 (defScope s33) := ⟨rfl, rfl, rfl, by decide +kernel, rfl, by decide +kernel, by decide +kernel⟩
theorem chk34 : DL.chkSs tab N34 b_opened_by (defScope s34) (defBody s34) = true := by decide +kernel
theorem sc34 : FnScope N34 P34 (defScope s34) := ⟨rfl, rfl, rfl, by decide +kernel, rfl, by decide +kernel, by decide +kernel⟩
theorem chk35 : DL.chkSs tab N35 b_opening_worth (defScope s35) (defBody s35) = true := by decide +kernel
theorem sc35 : FnScope N35 P35 (defScope s35) := ⟨rfl, rfl, rfl, by decide +kernel, rfl, by decide +kernel, by decide +kernel⟩
theorem chk36 : DL.chkSs tab N36 b_worth_if_opened (defScope s36) (defBody s36) = true := by decide +kernel
theorem sc36 : FnScope N36 P36 (defScope s36) := ⟨rfl, rfl, rfl, by decide +kernel, rfl, by decide +kernel, by decide +kernel⟩
theorem chk37 : DL.chkSs tab N37 b_right_openings (defScope s37) (defBody s37) = true := by decide +kernel
theorem sc37 : FnScope N37 P37 (defScope s37) := ⟨rfl, rfl, rfl, by decide +kernel, rfl, by decide +kernel, by decide +kernel⟩
theorem chk38 : DL.chkSs tab N38 b_fall_at (defScope s38) (defBody s38) = true := by decide +kernel
theorem sc38 : FnScope N38 P38 (defScope s38) := ⟨rfl, rfl, rfl, by decide +kernel, rfl, by decide +kernel, by decide +kernel⟩
theorem chk39 : DL.chkSs tab N39 b_opening_harm_of (defScope s39) (defBody s39) = true := by decide +kernel
theorem sc39 : FnScope N39 P39 (defScope s39) := ⟨rfl, rfl, rfl, by decide +kernel, rfl, by decide +kernel, by decide +kernel⟩
theorem chk40 : DL.chkSs tab N40 b_opening_harm (defScope s40) (defBody s40) = true := by decide +kernel
theorem sc40 : FnScope N40 P40 (defScope s40) := ⟨rfl, rfl, rfl, by decide +kernel, rfl, by decide +kernel, by decide +kernel⟩
theorem chk41 : DL.chkSs tab N41 b_is_opening_harm (defScope s41) (defBody s41) = true := by decide +kernel
theorem sc41 : FnScope N41 P41 (defScope s41) := ⟨rfl, rfl, rfl, by decide +kernel, rfl, by decide +kernel, by decide +kernel⟩
theorem chk42 : DL.chkSs tab N42 b__law_cell (defScope s42) (defBody s42) = true := by decide +kernel
theorem sc42 : FnScope N42 P42 (defScope s42) := ⟨rfl, rfl, rfl, by decide +kernel, rfl, by decide +kernel, by decide +kernel⟩
theorem chk43 : DL.chkSs tab N43 b__law_box (defScope s43) (defBody s43) = true := by decide +kernel
theorem sc43 : FnScope N43 P43 (defScope s43) := ⟨rfl, rfl, rfl, by decide +kernel, rfl, by decide +kernel, by decide +kernel⟩
theorem chk44 : DL.chkSs tab N44 b__law_take (defScope s44) (defBody s44) = true := by decide +kernel
theorem sc44 : FnScope N44 P44 (defScope s44) := ⟨rfl, rfl, rfl, by decide +kernel, rfl, by decide +kernel, by decide +kernel⟩
theorem chk45 : DL.chkSs tab N45 b__law_same (defScope s45) (defBody s45) = true := by decide +kernel
theorem sc45 : FnScope N45 P45 (defScope s45) := ⟨rfl, rfl, rfl, by decide +kernel, rfl, by decide +kernel, by decide +kernel⟩
theorem chk46 : DL.chkSs tab N46 b__law_low (defScope s46) (defBody s46) = true := by decide +kernel
theorem sc46 : FnScope N46 P46 (defScope s46) := ⟨rfl, rfl, rfl, by decide +kernel, rfl, by decide +kernel, by decide +kernel⟩
theorem chk47 : DL.chkSs tab N47 b__law_plus (defScope s47) (defBody s47) = true := by decide +kernel
theorem sc47 : FnScope N47 P47 (defScope s47) := ⟨rfl, rfl, rfl, by decide +kernel, rfl, by decide +kernel, by decide +kernel⟩
theorem chk48 : DL.chkSs tab N48 b__law_minus (defScope s48) (defBody s48) = true := by decide +kernel
theorem sc48 : FnScope N48 P48 (defScope s48) := ⟨rfl, rfl, rfl, by decide +kernel, rfl, by decide +kernel, by decide +kernel⟩
theorem chk49 : DL.chkSs tab N49 b__law_times (defScope s49) (defBody s49) = true := by decide +kernel
theorem sc49 : FnScope N49 P49 (defScope s49) := ⟨rfl, rfl, rfl, by decide +kernel, rfl, by decide +kernel, by decide +kernel⟩
theorem chk50 : DL.chkSs tab N50 b__law_over (defScope s50) (defBody s50) = true := by decide +kernel
theorem sc50 : FnScope N50 P50 (defScope s50) := ⟨rfl, rfl, rfl, by decide +kernel, rfl, by decide +kernel, by decide +kernel⟩
theorem chk51 : DL.chkSs tab N51 b__law_less (defScope s51) (defBody s51) = true := by decide +kernel
theorem sc51 : FnScope N51 P51 (defScope s51) := ⟨rfl, rfl, rfl, by decide +kernel, rfl, by decide +kernel, by decide +kernel⟩
theorem chk52 : DL.chkSs tab N52 b__law_total (defScope s52) (defBody s52) = true := by decide +kernel
theorem sc52 : FnScope N52 P52 (defScope s52) := ⟨rfl, rfl, rfl, by decide +kernel, rfl, by decide +kernel, by decide +kernel⟩
theorem chk53 : DL.chkSs tab N53 b__law_in_order (defScope s53) (defBody s53) = true := by decide +kernel
theorem sc53 : FnScope N53 P53 (defScope s53) := ⟨rfl, rfl, rfl, by decide +kernel, rfl, by decide +kernel, by decide +kernel⟩
theorem chk54 : DL.chkSs tab N54 b__law_greater (defScope s54) (defBody s54) = true := by decide +kernel
theorem sc54 : FnScope N54 P54 (defScope s54) := ⟨rfl, rfl, rfl, by decide +kernel, rfl, by decide +kernel, by decide +kernel⟩
theorem chk55 : DL.chkSs tab N55 b__law_drawn (defScope s55) (defBody s55) = true := by decide +kernel
theorem sc55 : FnScope N55 P55 (defScope s55) := ⟨rfl, rfl, rfl, by decide +kernel, rfl, by decide +kernel, by decide +kernel⟩
theorem chk56 : DL.chkSs tab N56 b__law_beyond (defScope s56) (defBody s56) = true := by decide +kernel
theorem sc56 : FnScope N56 P56 (defScope s56) := ⟨rfl, rfl, rfl, by decide +kernel, rfl, by decide +kernel, by decide +kernel⟩
theorem chk57 : DL.chkSs tab N57 b__law_reserve (defScope s57) (defBody s57) = true := by decide +kernel
theorem sc57 : FnScope N57 P57 (defScope s57) := ⟨rfl, rfl, rfl, by decide +kernel, rfl, by decide +kernel, by decide +kernel⟩
theorem chk58 : DL.chkSs tab N58 b__law_capped (defScope s58) (defBody s58) = true := by decide +kernel
theorem sc58 : FnScope N58 P58 (defScope s58) := ⟨rfl, rfl, rfl, by decide +kernel, rfl, by decide +kernel, by decide +kernel⟩
theorem chk59 : DL.chkSs tab N59 b__law_opened (defScope s59) (defBody s59) = true := by decide +kernel
theorem sc59 : FnScope N59 P59 (defScope s59) := ⟨rfl, rfl, rfl, by decide +kernel, rfl, by decide +kernel, by decide +kernel⟩
theorem chk60 : DL.chkSs tab N60 b__law_open (defScope s60) (defBody s60) = true := by decide +kernel
theorem sc60 : FnScope N60 P60 (defScope s60) := ⟨rfl, rfl, rfl, by decide +kernel, rfl, by decide +kernel, by decide +kernel⟩
theorem chk61 : DL.chkSs tab N61 b__law_box_drawn (defScope s61) (defBody s61) = true := by decide +kernel
theorem sc61 : FnScope N61 P61 (defScope s61) := ⟨rfl, rfl, rfl, by decide +kernel, rfl, by decide +kernel, by decide +kernel⟩
theorem chk62 : DL.chkSs tab N62 b__law_costly (defScope s62) (defBody s62) = true := by decide +kernel
theorem sc62 : FnScope N62 P62 (defScope s62) := ⟨rfl, rfl, rfl, by decide +kernel, rfl, by decide +kernel, by decide +kernel⟩
theorem chk63 : DL.chkSs tab N63 b__law_list_right (defScope s63) (defBody s63) = true := by decide +kernel
theorem sc63 : FnScope N63 P63 (defScope s63) := ⟨rfl, rfl, rfl, by decide +kernel, rfl, by decide +kernel, by decide +kernel⟩
theorem chk64 : DL.chkSs tab N64 b__law_single_right (defScope s64) (defBody s64) = true := by decide +kernel
theorem sc64 : FnScope N64 P64 (defScope s64) := ⟨rfl, rfl, rfl, by decide +kernel, rfl, by decide +kernel, by decide +kernel⟩
theorem chk65 : DL.chkSs tab N65 b__law_harm_right (defScope s65) (defBody s65) = true := by decide +kernel
theorem sc65 : FnScope N65 P65 (defScope s65) := ⟨rfl, rfl, rfl, by decide +kernel, rfl, by decide +kernel, by decide +kernel⟩
theorem chk66 : DL.chkSs tab N66 b__law_cell_right (defScope s66) (defBody s66) = true := by decide +kernel
theorem sc66 : FnScope N66 P66 (defScope s66) := ⟨rfl, rfl, rfl, by decide +kernel, rfl, by decide +kernel, by decide +kernel⟩
theorem chk67 : DL.chkSs tab N67 b_law (defScope s67) (defBody s67) = true := by decide +kernel
theorem sc67 : FnScope N67 P67 (defScope s67) := ⟨rfl, rfl, rfl, by decide +kernel, rfl, by decide +kernel, by decide +kernel⟩
def d0 : He.DefD := ⟨("is_integer", none), "is_integer", "is_integer", defArgs s0, defBody s0, defScope s0, [], []⟩
def d1 : He.DefD := ⟨("is_index", none), "is_index", "is_index", defArgs s1, defBody s1, defScope s1, [], []⟩
def d2 : He.DefD := ⟨("is_list", none), "is_list", "is_list", defArgs s2, defBody s2, defScope s2, [], []⟩
def d3 : He.DefD := ⟨("is_tuple", none), "is_tuple", "is_tuple", defArgs s3, defBody s3, defScope s3, [], []⟩
def d4 : He.DefD := ⟨("reduced", none), "reduced", "reduced", defArgs s4, defBody s4, defScope s4, [], []⟩
def d5 : He.DefD := ⟨("is_fraction", none), "is_fraction", "is_fraction", defArgs s5, defBody s5, defScope s5, [], []⟩
def d6 : He.DefD := ⟨("add", none), "add", "add", defArgs s6, defBody s6, defScope s6, [], []⟩
def d7 : He.DefD := ⟨("subtract", none), "subtract", "subtract", defArgs s7, defBody s7, defScope s7, [], []⟩
def d8 : He.DefD := ⟨("multiply", none), "multiply", "multiply", defArgs s8, defBody s8, defScope s8, [], []⟩
def d9 : He.DefD := ⟨("divide", none), "divide", "divide", defArgs s9, defBody s9, defScope s9, [], []⟩
def d10 : He.DefD := ⟨("is_below", none), "is_below", "is_below", defArgs s10, defBody s10, defScope s10, [], []⟩
def d11 : He.DefD := ⟨("greater_of", none), "greater_of", "greater_of", defArgs s11, defBody s11, defScope s11, [], []⟩
def d12 : He.DefD := ⟨("greatest", none), "greatest", "greatest", defArgs s12, defBody s12, defScope s12, [], []⟩
def d13 : He.DefD := ⟨("sum_of", none), "sum_of", "sum_of", defArgs s13, defBody s13, defScope s13, [], []⟩
def d14 : He.DefD := ⟨("ascending", none), "ascending", "ascending", defArgs s14, defBody s14, defScope s14, [], []⟩
def d15 : He.DefD := ⟨("is_box_row", none), "is_box_row", "is_box_row", defArgs s15, defBody s15, defScope s15, [], []⟩
def d16 : He.DefD := ⟨("is_box", none), "is_box", "is_box", defArgs s16, defBody s16, defScope s16, [], []⟩
def d17 : He.DefD := ⟨("check_box", none), "check_box", "check_box", defArgs s17, defBody s17, defScope s17, [], []⟩
def d18 : He.DefD := ⟨("drawn_by", none), "drawn_by", "drawn_by", defArgs s18, defBody s18, defScope s18, [], []⟩
def d19 : He.DefD := ⟨("drawn_beside", none), "drawn_beside", "drawn_beside", defArgs s19, defBody s19, defScope s19, [], []⟩
def d20 : He.DefD := ⟨("at_most", none), "at_most", "at_most", defArgs s20, defBody s20, defScope s20, [], []⟩
def d21 : He.DefD := ⟨("product_of", none), "product_of", "product_of", defArgs s21, defBody s21, defScope s21, [], []⟩
def d22 : He.DefD := ⟨("greatest_of", none), "greatest_of", "greatest_of", defArgs s22, defBody s22, defScope s22, [], []⟩
def d23 : He.DefD := ⟨("greatest_draw", none), "greatest_draw", "greatest_draw", defArgs s23, defBody s23, defScope s23, [], []⟩
def d24 : He.DefD := ⟨("places_of", none), "places_of", "places_of", defArgs s24, defBody s24, defScope s24, [], []⟩
def d25 : He.DefD := ⟨("is_costly_box", none), "is_costly_box", "is_costly_box", defArgs s25, defBody s25, defScope s25, [], []⟩
def d26 : He.DefD := ⟨("check_costly", none), "check_costly", "check_costly", defArgs s26, defBody s26, defScope s26, [], []⟩
def d27 : He.DefD := ⟨("beyond", none), "beyond", "beyond", defArgs s27, defBody s27, defScope s27, [], []⟩
def d28 : He.DefD := ⟨("reserve_of", none), "reserve_of", "reserve_of", defArgs s28, defBody s28, defScope s28, [], []⟩
def d29 : He.DefD := ⟨("reserve", none), "reserve", "reserve", defArgs s29, defBody s29, defScope s29, [], []⟩
def d30 : He.DefD := ⟨("capped_by", none), "capped_by", "capped_by", defArgs s30, defBody s30, defScope s30, [], []⟩
def d31 : He.DefD := ⟨("capped_of", none), "capped_of", "capped_of", defArgs s31, defBody s31, defScope s31, [], []⟩
def d32 : He.DefD := ⟨("capped", none), "capped", "capped", defArgs s32, defBody s32, defScope s32, [], []⟩
def d33 : He.DefD := ⟨("check_opening", none), "check_opening", "check_opening", defArgs s33, defBody s33, defScope s33, [], []⟩
def d34 : He.DefD := ⟨("opened_by", none), "opened_by", "opened_by", defArgs s34, defBody s34, defScope s34, [], []⟩
def d35 : He.DefD := ⟨("opening_worth", none), "opening_worth", "opening_worth", defArgs s35, defBody s35, defScope s35, [], []⟩
def d36 : He.DefD := ⟨("worth_if_opened", none), "worth_if_opened", "worth_if_opened", defArgs s36, defBody s36, defScope s36, [], []⟩
def d37 : He.DefD := ⟨("right_openings", none), "right_openings", "right_openings", defArgs s37, defBody s37, defScope s37, [], []⟩
def d38 : He.DefD := ⟨("fall_at", none), "fall_at", "fall_at", defArgs s38, defBody s38, defScope s38, [], []⟩
def d39 : He.DefD := ⟨("opening_harm_of", none), "opening_harm_of", "opening_harm_of", defArgs s39, defBody s39, defScope s39, [], []⟩
def d40 : He.DefD := ⟨("opening_harm", none), "opening_harm", "opening_harm", defArgs s40, defBody s40, defScope s40, [], []⟩
def d41 : He.DefD := ⟨("is_opening_harm", none), "is_opening_harm", "is_opening_harm", defArgs s41, defBody s41, defScope s41, [], []⟩
def d42 : He.DefD := ⟨("_law_cell", none), "_law_cell", "_law_cell", defArgs s42, defBody s42, defScope s42, [], []⟩
def d43 : He.DefD := ⟨("_law_box", none), "_law_box", "_law_box", defArgs s43, defBody s43, defScope s43, [], []⟩
def d44 : He.DefD := ⟨("_law_take", none), "_law_take", "_law_take", defArgs s44, defBody s44, defScope s44, [], []⟩
def d45 : He.DefD := ⟨("_law_same", none), "_law_same", "_law_same", defArgs s45, defBody s45, defScope s45, [], []⟩
def d46 : He.DefD := ⟨("_law_low", none), "_law_low", "_law_low", defArgs s46, defBody s46, defScope s46, [], []⟩
def d47 : He.DefD := ⟨("_law_plus", none), "_law_plus", "_law_plus", defArgs s47, defBody s47, defScope s47, [], []⟩
def d48 : He.DefD := ⟨("_law_minus", none), "_law_minus", "_law_minus", defArgs s48, defBody s48, defScope s48, [], []⟩
def d49 : He.DefD := ⟨("_law_times", none), "_law_times", "_law_times", defArgs s49, defBody s49, defScope s49, [], []⟩
def d50 : He.DefD := ⟨("_law_over", none), "_law_over", "_law_over", defArgs s50, defBody s50, defScope s50, [], []⟩
def d51 : He.DefD := ⟨("_law_less", none), "_law_less", "_law_less", defArgs s51, defBody s51, defScope s51, [], []⟩
def d52 : He.DefD := ⟨("_law_total", none), "_law_total", "_law_total", defArgs s52, defBody s52, defScope s52, [], []⟩
def d53 : He.DefD := ⟨("_law_in_order", none), "_law_in_order", "_law_in_order", defArgs s53, defBody s53, defScope s53, [], []⟩
def d54 : He.DefD := ⟨("_law_greater", none), "_law_greater", "_law_greater", defArgs s54, defBody s54, defScope s54, [], []⟩
def d55 : He.DefD := ⟨("_law_drawn", none), "_law_drawn", "_law_drawn", defArgs s55, defBody s55, defScope s55, [], []⟩
def d56 : He.DefD := ⟨("_law_beyond", none), "_law_beyond", "_law_beyond", defArgs s56, defBody s56, defScope s56, [], []⟩
def d57 : He.DefD := ⟨("_law_reserve", none), "_law_reserve", "_law_reserve", defArgs s57, defBody s57, defScope s57, [], []⟩
def d58 : He.DefD := ⟨("_law_capped", none), "_law_capped", "_law_capped", defArgs s58, defBody s58, defScope s58, [], []⟩
def d59 : He.DefD := ⟨("_law_opened", none), "_law_opened", "_law_opened", defArgs s59, defBody s59, defScope s59, [], []⟩
def d60 : He.DefD := ⟨("_law_open", none), "_law_open", "_law_open", defArgs s60, defBody s60, defScope s60, [], []⟩
def d61 : He.DefD := ⟨("_law_box_drawn", none), "_law_box_drawn", "_law_box_drawn", defArgs s61, defBody s61, defScope s61, [], []⟩
def d62 : He.DefD := ⟨("_law_costly", none), "_law_costly", "_law_costly", defArgs s62, defBody s62, defScope s62, [], []⟩
def d63 : He.DefD := ⟨("_law_list_right", none), "_law_list_right", "_law_list_right", defArgs s63, defBody s63, defScope s63, [], []⟩
def d64 : He.DefD := ⟨("_law_single_right", none), "_law_single_right", "_law_single_right", defArgs s64, defBody s64, defScope s64, [], []⟩
def d65 : He.DefD := ⟨("_law_harm_right", none), "_law_harm_right", "_law_harm_right", defArgs s65, defBody s65, defScope s65, [], []⟩
def d66 : He.DefD := ⟨("_law_cell_right", none), "_law_cell_right", "_law_cell_right", defArgs s66, defBody s66, defScope s66, [], []⟩
def d67 : He.DefD := ⟨("law", none), "law", "law", defArgs s67, defBody s67, defScope s67, [], []⟩
def fns : List He.DefD := d0 :: d1 :: d2 :: d3 :: d4 :: d5 :: d6 :: d7 :: d8 :: d9 :: d10 :: d11 :: d12 :: d13 :: d14 :: d15 :: d16 :: d17 :: d18 :: d19 :: d20 :: d21 :: d22 :: d23 :: d24 :: d25 :: d26 :: d27 :: d28 :: d29 :: d30 :: d31 :: d32 :: d33 :: d34 :: d35 :: d36 :: d37 :: d38 :: d39 :: d40 :: d41 :: d42 :: d43 :: d44 :: d45 :: d46 :: d47 :: d48 :: d49 :: d50 :: d51 :: d52 :: d53 :: d54 :: d55 :: d56 :: d57 :: d58 :: d59 :: d60 :: d61 :: d62 :: d63 :: d64 :: d65 :: d66 :: d67 :: []
def fas : List He.Fa := .glo "is_integer" :: .glo "is_index" :: .glo "is_list" :: .glo "is_tuple" :: .glo "reduced" :: .glo "is_fraction" :: .glo "add" :: .glo "subtract" :: .glo "multiply" :: .glo "divide" :: .glo "is_below" :: .glo "greater_of" :: .glo "greatest" :: .glo "sum_of" :: .glo "ascending" :: .glo "is_box_row" :: .glo "is_box" :: .glo "check_box" :: .glo "drawn_by" :: .glo "drawn_beside" :: .glo "at_most" :: .glo "product_of" :: .glo "greatest_of" :: .glo "greatest_draw" :: .glo "places_of" :: .glo "is_costly_box" :: .glo "check_costly" :: .glo "beyond" :: .glo "reserve_of" :: .glo "reserve" :: .glo "capped_by" :: .glo "capped_of" :: .glo "capped" :: .glo "check_opening" :: .glo "opened_by" :: .glo "opening_worth" :: .glo "worth_if_opened" :: .glo "right_openings" :: .glo "fall_at" :: .glo "opening_harm_of" :: .glo "opening_harm" :: .glo "is_opening_harm" :: .glo "_law_cell" :: .glo "_law_box" :: .glo "_law_take" :: .glo "_law_same" :: .glo "_law_low" :: .glo "_law_plus" :: .glo "_law_minus" :: .glo "_law_times" :: .glo "_law_over" :: .glo "_law_less" :: .glo "_law_total" :: .glo "_law_in_order" :: .glo "_law_greater" :: .glo "_law_drawn" :: .glo "_law_beyond" :: .glo "_law_reserve" :: .glo "_law_capped" :: .glo "_law_opened" :: .glo "_law_open" :: .glo "_law_box_drawn" :: .glo "_law_costly" :: .glo "_law_list_right" :: .glo "_law_single_right" :: .glo "_law_harm_right" :: .glo "_law_cell_right" :: .glo "law" :: tab.bl.map He.Fa.free
def extra (K : PySem.W.Frag) : Bool := (tab.go.all fun p => conK K p.1 p.2) && gcdK K
section
variable {P : Program} {w : World} {K : PySem.W.Frag} {h : Heap} {mg : Str → Option Value}
theorem k0 (X : K.In h) (G : h.Ns mainGlobals mg) (c : He.SaysD fas fns K) : DefOk tab K mg 0 ⟨1, N0.length, defs[0].fz, b_is_integer⟩ :=
  def_mk (N := N0) (st := s0) (ps := P0) (kw := []) (c.def_ 0 (d := d0) rfl) (He.glo_ok X G (c.fact 0 (f := .glo "is_integer") rfl)) sc0 chk0
    (fun _ _ _ _ _ _ us hl => match us, hl with | [_], _ => rfl) (by decide +kernel) (fun fd F q hq => by
      cases hq)
theorem k1 (X : K.In h) (G : h.Ns mainGlobals mg) (c : He.SaysD fas fns K) : DefOk tab K mg 1 ⟨2, N1.length, defs[1].fz, b_is_index⟩ :=
  def_mk (N := N1) (st := s1) (ps := P1) (kw := []) (c.def_ 1 (d := d1) rfl) (He.glo_ok X G (c.fact 1 (f := .glo "is_index") rfl)) sc1 chk1
    (fun _ _ _ _ _ _ us hl => match us, hl with | [_, _], _ => rfl) (by decide +kernel) (fun fd F q hq => by
      cases hq)
theorem k2 (X : K.In h) (G : h.Ns mainGlobals mg) (c : He.SaysD fas fns K) : DefOk tab K mg 2 ⟨1, N2.length, defs[2].fz, b_is_list⟩ :=
  def_mk (N := N2) (st := s2) (ps := P2) (kw := []) (c.def_ 2 (d := d2) rfl) (He.glo_ok X G (c.fact 2 (f := .glo "is_list") rfl)) sc2 chk2
    (fun _ _ _ _ _ _ us hl => match us, hl with | [_], _ => rfl) (by decide +kernel) (fun fd F q hq => by
      cases hq)
theorem k3 (X : K.In h) (G : h.Ns mainGlobals mg) (c : He.SaysD fas fns K) : DefOk tab K mg 3 ⟨2, N3.length, defs[3].fz, b_is_tuple⟩ :=
  def_mk (N := N3) (st := s3) (ps := P3) (kw := []) (c.def_ 3 (d := d3) rfl) (He.glo_ok X G (c.fact 3 (f := .glo "is_tuple") rfl)) sc3 chk3
    (fun _ _ _ _ _ _ us hl => match us, hl with | [_, _], _ => rfl) (by decide +kernel) (fun fd F q hq => by
      cases hq)
theorem k4 (X : K.In h) (G : h.Ns mainGlobals mg) (c : He.SaysD fas fns K) : DefOk tab K mg 4 ⟨2, N4.length, defs[4].fz, b_reduced⟩ :=
  def_mk (N := N4) (st := s4) (ps := P4) (kw := []) (c.def_ 4 (d := d4) rfl) (He.glo_ok X G (c.fact 4 (f := .glo "reduced") rfl)) sc4 chk4
    (fun _ _ _ _ _ _ us hl => match us, hl with | [_, _], _ => rfl) (by decide +kernel) (fun fd F q hq => by
      cases hq)
theorem k5 (X : K.In h) (G : h.Ns mainGlobals mg) (c : He.SaysD fas fns K) : DefOk tab K mg 5 ⟨1, N5.length, defs[5].fz, b_is_fraction⟩ :=
  def_mk (N := N5) (st := s5) (ps := P5) (kw := []) (c.def_ 5 (d := d5) rfl) (He.glo_ok X G (c.fact 5 (f := .glo "is_fraction") rfl)) sc5 chk5
    (fun _ _ _ _ _ _ us hl => match us, hl with | [_], _ => rfl) (by decide +kernel) (fun fd F q hq => by
      cases hq)
theorem k6 (X : K.In h) (G : h.Ns mainGlobals mg) (c : He.SaysD fas fns K) : DefOk tab K mg 6 ⟨2, N6.length, defs[6].fz, b_add⟩ :=
  def_mk (N := N6) (st := s6) (ps := P6) (kw := []) (c.def_ 6 (d := d6) rfl) (He.glo_ok X G (c.fact 6 (f := .glo "add") rfl)) sc6 chk6
    (fun _ _ _ _ _ _ us hl => match us, hl with | [_, _], _ => rfl) (by decide +kernel) (fun fd F q hq => by
      cases hq)
theorem k7 (X : K.In h) (G : h.Ns mainGlobals mg) (c : He.SaysD fas fns K) : DefOk tab K mg 7 ⟨2, N7.length, defs[7].fz, b_subtract⟩ :=
  def_mk (N := N7) (st := s7) (ps := P7) (kw := []) (c.def_ 7 (d := d7) rfl) (He.glo_ok X G (c.fact 7 (f := .glo "subtract") rfl)) sc7 chk7
    (fun _ _ _ _ _ _ us hl => match us, hl with | [_, _], _ => rfl) (by decide +kernel) (fun fd F q hq => by
      cases hq)
theorem k8 (X : K.In h) (G : h.Ns mainGlobals mg) (c : He.SaysD fas fns K) : DefOk tab K mg 8 ⟨2, N8.length, defs[8].fz, b_multiply⟩ :=
  def_mk (N := N8) (st := s8) (ps := P8) (kw := []) (c.def_ 8 (d := d8) rfl) (He.glo_ok X G (c.fact 8 (f := .glo "multiply") rfl)) sc8 chk8
    (fun _ _ _ _ _ _ us hl => match us, hl with | [_, _], _ => rfl) (by decide +kernel) (fun fd F q hq => by
      cases hq)
theorem k9 (X : K.In h) (G : h.Ns mainGlobals mg) (c : He.SaysD fas fns K) : DefOk tab K mg 9 ⟨2, N9.length, defs[9].fz, b_divide⟩ :=
  def_mk (N := N9) (st := s9) (ps := P9) (kw := []) (c.def_ 9 (d := d9) rfl) (He.glo_ok X G (c.fact 9 (f := .glo "divide") rfl)) sc9 chk9
    (fun _ _ _ _ _ _ us hl => match us, hl with | [_, _], _ => rfl) (by decide +kernel) (fun fd F q hq => by
      cases hq)
theorem k10 (X : K.In h) (G : h.Ns mainGlobals mg) (c : He.SaysD fas fns K) : DefOk tab K mg 10 ⟨2, N10.length, defs[10].fz, b_is_below⟩ :=
  def_mk (N := N10) (st := s10) (ps := P10) (kw := []) (c.def_ 10 (d := d10) rfl) (He.glo_ok X G (c.fact 10 (f := .glo "is_below") rfl)) sc10 chk10
    (fun _ _ _ _ _ _ us hl => match us, hl with | [_, _], _ => rfl) (by decide +kernel) (fun fd F q hq => by
      cases hq)
theorem k11 (X : K.In h) (G : h.Ns mainGlobals mg) (c : He.SaysD fas fns K) : DefOk tab K mg 11 ⟨2, N11.length, defs[11].fz, b_greater_of⟩ :=
  def_mk (N := N11) (st := s11) (ps := P11) (kw := []) (c.def_ 11 (d := d11) rfl) (He.glo_ok X G (c.fact 11 (f := .glo "greater_of") rfl)) sc11 chk11
    (fun _ _ _ _ _ _ us hl => match us, hl with | [_, _], _ => rfl) (by decide +kernel) (fun fd F q hq => by
      cases hq)
theorem k12 (X : K.In h) (G : h.Ns mainGlobals mg) (c : He.SaysD fas fns K) : DefOk tab K mg 12 ⟨1, N12.length, defs[12].fz, b_greatest⟩ :=
  def_mk (N := N12) (st := s12) (ps := P12) (kw := []) (c.def_ 12 (d := d12) rfl) (He.glo_ok X G (c.fact 12 (f := .glo "greatest") rfl)) sc12 chk12
    (fun _ _ _ _ _ _ us hl => match us, hl with | [_], _ => rfl) (by decide +kernel) (fun fd F q hq => by
      cases hq)
theorem k13 (X : K.In h) (G : h.Ns mainGlobals mg) (c : He.SaysD fas fns K) : DefOk tab K mg 13 ⟨1, N13.length, defs[13].fz, b_sum_of⟩ :=
  def_mk (N := N13) (st := s13) (ps := P13) (kw := []) (c.def_ 13 (d := d13) rfl) (He.glo_ok X G (c.fact 13 (f := .glo "sum_of") rfl)) sc13 chk13
    (fun _ _ _ _ _ _ us hl => match us, hl with | [_], _ => rfl) (by decide +kernel) (fun fd F q hq => by
      cases hq)
theorem k14 (X : K.In h) (G : h.Ns mainGlobals mg) (c : He.SaysD fas fns K) : DefOk tab K mg 14 ⟨1, N14.length, defs[14].fz, b_ascending⟩ :=
  def_mk (N := N14) (st := s14) (ps := P14) (kw := []) (c.def_ 14 (d := d14) rfl) (He.glo_ok X G (c.fact 14 (f := .glo "ascending") rfl)) sc14 chk14
    (fun _ _ _ _ _ _ us hl => match us, hl with | [_], _ => rfl) (by decide +kernel) (fun fd F q hq => by
      cases hq)
theorem k15 (X : K.In h) (G : h.Ns mainGlobals mg) (c : He.SaysD fas fns K) : DefOk tab K mg 15 ⟨1, N15.length, defs[15].fz, b_is_box_row⟩ :=
  def_mk (N := N15) (st := s15) (ps := P15) (kw := []) (c.def_ 15 (d := d15) rfl) (He.glo_ok X G (c.fact 15 (f := .glo "is_box_row") rfl)) sc15 chk15
    (fun _ _ _ _ _ _ us hl => match us, hl with | [_], _ => rfl) (by decide +kernel) (fun fd F q hq => by
      cases hq)
theorem k16 (X : K.In h) (G : h.Ns mainGlobals mg) (c : He.SaysD fas fns K) : DefOk tab K mg 16 ⟨1, N16.length, defs[16].fz, b_is_box⟩ :=
  def_mk (N := N16) (st := s16) (ps := P16) (kw := []) (c.def_ 16 (d := d16) rfl) (He.glo_ok X G (c.fact 16 (f := .glo "is_box") rfl)) sc16 chk16
    (fun _ _ _ _ _ _ us hl => match us, hl with | [_], _ => rfl) (by decide +kernel) (fun fd F q hq => by
      cases hq)
theorem k17 (X : K.In h) (G : h.Ns mainGlobals mg) (c : He.SaysD fas fns K) : DefOk tab K mg 17 ⟨1, N17.length, defs[17].fz, b_check_box⟩ :=
  def_mk (N := N17) (st := s17) (ps := P17) (kw := []) (c.def_ 17 (d := d17) rfl) (He.glo_ok X G (c.fact 17 (f := .glo "check_box") rfl)) sc17 chk17
    (fun _ _ _ _ _ _ us hl => match us, hl with | [_], _ => rfl) (by decide +kernel) (fun fd F q hq => by
      cases hq)
theorem k18 (X : K.In h) (G : h.Ns mainGlobals mg) (c : He.SaysD fas fns K) : DefOk tab K mg 18 ⟨2, N18.length, defs[18].fz, b_drawn_by⟩ :=
  def_mk (N := N18) (st := s18) (ps := P18) (kw := []) (c.def_ 18 (d := d18) rfl) (He.glo_ok X G (c.fact 18 (f := .glo "drawn_by") rfl)) sc18 chk18
    (fun _ _ _ _ _ _ us hl => match us, hl with | [_, _], _ => rfl) (by decide +kernel) (fun fd F q hq => by
      cases hq)
theorem k19 (X : K.In h) (G : h.Ns mainGlobals mg) (c : He.SaysD fas fns K) : DefOk tab K mg 19 ⟨2, N19.length, defs[19].fz, b_drawn_beside⟩ :=
  def_mk (N := N19) (st := s19) (ps := P19) (kw := []) (c.def_ 19 (d := d19) rfl) (He.glo_ok X G (c.fact 19 (f := .glo "drawn_beside") rfl)) sc19 chk19
    (fun _ _ _ _ _ _ us hl => match us, hl with | [_, _], _ => rfl) (by decide +kernel) (fun fd F q hq => by
      cases hq)
theorem k20 (X : K.In h) (G : h.Ns mainGlobals mg) (c : He.SaysD fas fns K) : DefOk tab K mg 20 ⟨2, N20.length, defs[20].fz, b_at_most⟩ :=
  def_mk (N := N20) (st := s20) (ps := P20) (kw := []) (c.def_ 20 (d := d20) rfl) (He.glo_ok X G (c.fact 20 (f := .glo "at_most") rfl)) sc20 chk20
    (fun _ _ _ _ _ _ us hl => match us, hl with | [_, _], _ => rfl) (by decide +kernel) (fun fd F q hq => by
      cases hq)
theorem k21 (X : K.In h) (G : h.Ns mainGlobals mg) (c : He.SaysD fas fns K) : DefOk tab K mg 21 ⟨1, N21.length, defs[21].fz, b_product_of⟩ :=
  def_mk (N := N21) (st := s21) (ps := P21) (kw := []) (c.def_ 21 (d := d21) rfl) (He.glo_ok X G (c.fact 21 (f := .glo "product_of") rfl)) sc21 chk21
    (fun _ _ _ _ _ _ us hl => match us, hl with | [_], _ => rfl) (by decide +kernel) (fun fd F q hq => by
      cases hq)
theorem k22 (X : K.In h) (G : h.Ns mainGlobals mg) (c : He.SaysD fas fns K) : DefOk tab K mg 22 ⟨1, N22.length, defs[22].fz, b_greatest_of⟩ :=
  def_mk (N := N22) (st := s22) (ps := P22) (kw := []) (c.def_ 22 (d := d22) rfl) (He.glo_ok X G (c.fact 22 (f := .glo "greatest_of") rfl)) sc22 chk22
    (fun _ _ _ _ _ _ us hl => match us, hl with | [_], _ => rfl) (by decide +kernel) (fun fd F q hq => by
      cases hq)
theorem k23 (X : K.In h) (G : h.Ns mainGlobals mg) (c : He.SaysD fas fns K) : DefOk tab K mg 23 ⟨1, N23.length, defs[23].fz, b_greatest_draw⟩ :=
  def_mk (N := N23) (st := s23) (ps := P23) (kw := []) (c.def_ 23 (d := d23) rfl) (He.glo_ok X G (c.fact 23 (f := .glo "greatest_draw") rfl)) sc23 chk23
    (fun _ _ _ _ _ _ us hl => match us, hl with | [_], _ => rfl) (by decide +kernel) (fun fd F q hq => by
      cases hq)
theorem k24 (X : K.In h) (G : h.Ns mainGlobals mg) (c : He.SaysD fas fns K) : DefOk tab K mg 24 ⟨2, N24.length, defs[24].fz, b_places_of⟩ :=
  def_mk (N := N24) (st := s24) (ps := P24) (kw := []) (c.def_ 24 (d := d24) rfl) (He.glo_ok X G (c.fact 24 (f := .glo "places_of") rfl)) sc24 chk24
    (fun _ _ _ _ _ _ us hl => match us, hl with | [_, _], _ => rfl) (by decide +kernel) (fun fd F q hq => by
      cases hq)
theorem k25 (X : K.In h) (G : h.Ns mainGlobals mg) (c : He.SaysD fas fns K) : DefOk tab K mg 25 ⟨1, N25.length, defs[25].fz, b_is_costly_box⟩ :=
  def_mk (N := N25) (st := s25) (ps := P25) (kw := []) (c.def_ 25 (d := d25) rfl) (He.glo_ok X G (c.fact 25 (f := .glo "is_costly_box") rfl)) sc25 chk25
    (fun _ _ _ _ _ _ us hl => match us, hl with | [_], _ => rfl) (by decide +kernel) (fun fd F q hq => by
      cases hq)
theorem k26 (X : K.In h) (G : h.Ns mainGlobals mg) (c : He.SaysD fas fns K) : DefOk tab K mg 26 ⟨1, N26.length, defs[26].fz, b_check_costly⟩ :=
  def_mk (N := N26) (st := s26) (ps := P26) (kw := []) (c.def_ 26 (d := d26) rfl) (He.glo_ok X G (c.fact 26 (f := .glo "check_costly") rfl)) sc26 chk26
    (fun _ _ _ _ _ _ us hl => match us, hl with | [_], _ => rfl) (by decide +kernel) (fun fd F q hq => by
      cases hq)
theorem k27 (X : K.In h) (G : h.Ns mainGlobals mg) (c : He.SaysD fas fns K) : DefOk tab K mg 27 ⟨2, N27.length, defs[27].fz, b_beyond⟩ :=
  def_mk (N := N27) (st := s27) (ps := P27) (kw := []) (c.def_ 27 (d := d27) rfl) (He.glo_ok X G (c.fact 27 (f := .glo "beyond") rfl)) sc27 chk27
    (fun _ _ _ _ _ _ us hl => match us, hl with | [_, _], _ => rfl) (by decide +kernel) (fun fd F q hq => by
      cases hq)
theorem k28 (X : K.In h) (G : h.Ns mainGlobals mg) (c : He.SaysD fas fns K) : DefOk tab K mg 28 ⟨1, N28.length, defs[28].fz, b_reserve_of⟩ :=
  def_mk (N := N28) (st := s28) (ps := P28) (kw := []) (c.def_ 28 (d := d28) rfl) (He.glo_ok X G (c.fact 28 (f := .glo "reserve_of") rfl)) sc28 chk28
    (fun _ _ _ _ _ _ us hl => match us, hl with | [_], _ => rfl) (by decide +kernel) (fun fd F q hq => by
      cases hq)
theorem k29 (X : K.In h) (G : h.Ns mainGlobals mg) (c : He.SaysD fas fns K) : DefOk tab K mg 29 ⟨1, N29.length, defs[29].fz, b_reserve⟩ :=
  def_mk (N := N29) (st := s29) (ps := P29) (kw := [(0, [("costly" : Str)], [0])]) (c.def_ 29 (d := d29) rfl) (He.glo_ok X G (c.fact 29 (f := .glo "reserve") rfl)) sc29 chk29
    (fun _ _ _ _ _ _ us hl => match us, hl with | [_], _ => rfl) (by decide +kernel) (fun fd F q hq => by
      rcases List.mem_cons.mp hq with rfl | hq
      · exact fun_kbn F 0 [("costly" : Str)] [0] fun _ _ _ _ _ _ us ws h1 h2 => match us, ws, h1, h2 with | [], [_], _, _ => rfl
      cases hq)
theorem k30 (X : K.In h) (G : h.Ns mainGlobals mg) (c : He.SaysD fas fns K) : DefOk tab K mg 30 ⟨2, N30.length, defs[30].fz, b_capped_by⟩ :=
  def_mk (N := N30) (st := s30) (ps := P30) (kw := []) (c.def_ 30 (d := d30) rfl) (He.glo_ok X G (c.fact 30 (f := .glo "capped_by") rfl)) sc30 chk30
    (fun _ _ _ _ _ _ us hl => match us, hl with | [_, _], _ => rfl) (by decide +kernel) (fun fd F q hq => by
      cases hq)
theorem k31 (X : K.In h) (G : h.Ns mainGlobals mg) (c : He.SaysD fas fns K) : DefOk tab K mg 31 ⟨1, N31.length, defs[31].fz, b_capped_of⟩ :=
  def_mk (N := N31) (st := s31) (ps := P31) (kw := []) (c.def_ 31 (d := d31) rfl) (He.glo_ok X G (c.fact 31 (f := .glo "capped_of") rfl)) sc31 chk31
    (fun _ _ _ _ _ _ us hl => match us, hl with | [_], _ => rfl) (by decide +kernel) (fun fd F q hq => by
      cases hq)
theorem k32 (X : K.In h) (G : h.Ns mainGlobals mg) (c : He.SaysD fas fns K) : DefOk tab K mg 32 ⟨1, N32.length, defs[32].fz, b_capped⟩ :=
  def_mk (N := N32) (st := s32) (ps := P32) (kw := [(0, [("costly" : Str)], [0])]) (c.def_ 32 (d := d32) rfl) (He.glo_ok X G (c.fact 32 (f := .glo "capped") rfl)) sc32 chk32
    (fun _ _ _ _ _ _ us hl => match us, hl with | [_], _ => rfl) (by decide +kernel) (fun fd F q hq => by
      rcases List.mem_cons.mp hq with rfl | hq
      · exact fun_kbn F 0 [("costly" : Str)] [0] fun _ _ _ _ _ _ us ws h1 h2 => match us, ws, h1, h2 with | [], [_], _, _ => rfl
      cases hq)
theorem k33 (X : K.In h) (G : h.Ns mainGlobals mg) (c : He.SaysD fas fns K) : DefOk tab K mg 33 ⟨2, N33.length, defs[33].fz, b_check_opening⟩ :=
  def_mk (N := N33) (st := s33) (ps := P33) (kw := []) (c.def_ 33 (d := d33) rfl) (He.glo_ok X G (c.fact 33 (f := .glo "check_opening") rfl)) sc33 chk33
    (fun _ _ _ _ _ _ us hl => match us, hl with | [_, _], _ => rfl) (by decide +kernel) (fun fd F q hq => by
      cases hq)
theorem k34 (X : K.In h) (G : h.Ns mainGlobals mg) (c : He.SaysD fas fns K) : DefOk tab K mg 34 ⟨2, N34.length, defs[34].fz, b_opened_by⟩ :=
  def_mk (N := N34) (st := s34) (ps := P34) (kw := []) (c.def_ 34 (d := d34) rfl) (He.glo_ok X G (c.fact 34 (f := .glo "opened_by") rfl)) sc34 chk34
    (fun _ _ _ _ _ _ us hl => match us, hl with | [_, _], _ => rfl) (by decide +kernel) (fun fd F q hq => by
      cases hq)
theorem k35 (X : K.In h) (G : h.Ns mainGlobals mg) (c : He.SaysD fas fns K) : DefOk tab K mg 35 ⟨2, N35.length, defs[35].fz, b_opening_worth⟩ :=
  def_mk (N := N35) (st := s35) (ps := P35) (kw := [(0, [("offer" : Str), ("costlies" : Str)], [1, 0])]) (c.def_ 35 (d := d35) rfl) (He.glo_ok X G (c.fact 35 (f := .glo "opening_worth") rfl)) sc35 chk35
    (fun _ _ _ _ _ _ us hl => match us, hl with | [_, _], _ => rfl) (by decide +kernel) (fun fd F q hq => by
      rcases List.mem_cons.mp hq with rfl | hq
      · exact fun_kbn F 0 [("offer" : Str), ("costlies" : Str)] [1, 0] fun _ _ _ _ _ _ us ws h1 h2 => match us, ws, h1, h2 with | [], [_, _], _, _ => rfl
      cases hq)
theorem k36 (X : K.In h) (G : h.Ns mainGlobals mg) (c : He.SaysD fas fns K) : DefOk tab K mg 36 ⟨3, N36.length, defs[36].fz, b_worth_if_opened⟩ :=
  def_mk (N := N36) (st := s36) (ps := P36) (kw := [(0, [("position" : Str), ("offer" : Str), ("costlies" : Str)], [2, 1, 0])]) (c.def_ 36 (d := d36) rfl) (He.glo_ok X G (c.fact 36 (f := .glo "worth_if_opened") rfl)) sc36 chk36
    (fun _ _ _ _ _ _ us hl => match us, hl with | [_, _, _], _ => rfl) (by decide +kernel) (fun fd F q hq => by
      rcases List.mem_cons.mp hq with rfl | hq
      · exact fun_kbn F 0 [("position" : Str), ("offer" : Str), ("costlies" : Str)] [2, 1, 0] fun _ _ _ _ _ _ us ws h1 h2 => match us, ws, h1, h2 with | [], [_, _, _], _, _ => rfl
      cases hq)
theorem k37 (X : K.In h) (G : h.Ns mainGlobals mg) (c : He.SaysD fas fns K) : DefOk tab K mg 37 ⟨2, N37.length, defs[37].fz, b_right_openings⟩ :=
  def_mk (N := N37) (st := s37) (ps := P37) (kw := [(0, [("offer" : Str), ("costlies" : Str)], [1, 0])]) (c.def_ 37 (d := d37) rfl) (He.glo_ok X G (c.fact 37 (f := .glo "right_openings") rfl)) sc37 chk37
    (fun _ _ _ _ _ _ us hl => match us, hl with | [_, _], _ => rfl) (by decide +kernel) (fun fd F q hq => by
      rcases List.mem_cons.mp hq with rfl | hq
      · exact fun_kbn F 0 [("offer" : Str), ("costlies" : Str)] [1, 0] fun _ _ _ _ _ _ us ws h1 h2 => match us, ws, h1, h2 with | [], [_, _], _, _ => rfl
      cases hq)
theorem k38 (X : K.In h) (G : h.Ns mainGlobals mg) (c : He.SaysD fas fns K) : DefOk tab K mg 38 ⟨3, N38.length, defs[38].fz, b_fall_at⟩ :=
  def_mk (N := N38) (st := s38) (ps := P38) (kw := []) (c.def_ 38 (d := d38) rfl) (He.glo_ok X G (c.fact 38 (f := .glo "fall_at") rfl)) sc38 chk38
    (fun _ _ _ _ _ _ us hl => match us, hl with | [_, _, _], _ => rfl) (by decide +kernel) (fun fd F q hq => by
      cases hq)
theorem k39 (X : K.In h) (G : h.Ns mainGlobals mg) (c : He.SaysD fas fns K) : DefOk tab K mg 39 ⟨2, N39.length, defs[39].fz, b_opening_harm_of⟩ :=
  def_mk (N := N39) (st := s39) (ps := P39) (kw := []) (c.def_ 39 (d := d39) rfl) (He.glo_ok X G (c.fact 39 (f := .glo "opening_harm_of") rfl)) sc39 chk39
    (fun _ _ _ _ _ _ us hl => match us, hl with | [_, _], _ => rfl) (by decide +kernel) (fun fd F q hq => by
      cases hq)
theorem k40 (X : K.In h) (G : h.Ns mainGlobals mg) (c : He.SaysD fas fns K) : DefOk tab K mg 40 ⟨2, N40.length, defs[40].fz, b_opening_harm⟩ :=
  def_mk (N := N40) (st := s40) (ps := P40) (kw := [(0, [("new" : Str), ("old" : Str)], [1, 0])]) (c.def_ 40 (d := d40) rfl) (He.glo_ok X G (c.fact 40 (f := .glo "opening_harm") rfl)) sc40 chk40
    (fun _ _ _ _ _ _ us hl => match us, hl with | [_, _], _ => rfl) (by decide +kernel) (fun fd F q hq => by
      rcases List.mem_cons.mp hq with rfl | hq
      · exact fun_kbn F 0 [("new" : Str), ("old" : Str)] [1, 0] fun _ _ _ _ _ _ us ws h1 h2 => match us, ws, h1, h2 with | [], [_, _], _, _ => rfl
      cases hq)
theorem k41 (X : K.In h) (G : h.Ns mainGlobals mg) (c : He.SaysD fas fns K) : DefOk tab K mg 41 ⟨3, N41.length, defs[41].fz, b_is_opening_harm⟩ :=
  def_mk (N := N41) (st := s41) (ps := P41) (kw := [(0, [("value" : Str), ("new" : Str), ("old" : Str)], [2, 1, 0])]) (c.def_ 41 (d := d41) rfl) (He.glo_ok X G (c.fact 41 (f := .glo "is_opening_harm") rfl)) sc41 chk41
    (fun _ _ _ _ _ _ us hl => match us, hl with | [_, _, _], _ => rfl) (by decide +kernel) (fun fd F q hq => by
      rcases List.mem_cons.mp hq with rfl | hq
      · exact fun_kbn F 0 [("value" : Str), ("new" : Str), ("old" : Str)] [2, 1, 0] fun _ _ _ _ _ _ us ws h1 h2 => match us, ws, h1, h2 with | [], [_, _, _], _, _ => rfl
      cases hq)
theorem k42 (X : K.In h) (G : h.Ns mainGlobals mg) (c : He.SaysD fas fns K) : DefOk tab K mg 42 ⟨2, N42.length, defs[42].fz, b__law_cell⟩ :=
  def_mk (N := N42) (st := s42) (ps := P42) (kw := []) (c.def_ 42 (d := d42) rfl) (He.glo_ok X G (c.fact 42 (f := .glo "_law_cell") rfl)) sc42 chk42
    (fun _ _ _ _ _ _ us hl => match us, hl with | [_, _], _ => rfl) (by decide +kernel) (fun fd F q hq => by
      cases hq)
theorem k43 (X : K.In h) (G : h.Ns mainGlobals mg) (c : He.SaysD fas fns K) : DefOk tab K mg 43 ⟨1, N43.length, defs[43].fz, b__law_box⟩ :=
  def_mk (N := N43) (st := s43) (ps := P43) (kw := []) (c.def_ 43 (d := d43) rfl) (He.glo_ok X G (c.fact 43 (f := .glo "_law_box") rfl)) sc43 chk43
    (fun _ _ _ _ _ _ us hl => match us, hl with | [_], _ => rfl) (by decide +kernel) (fun fd F q hq => by
      cases hq)
theorem k44 (X : K.In h) (G : h.Ns mainGlobals mg) (c : He.SaysD fas fns K) : DefOk tab K mg 44 ⟨2, N44.length, defs[44].fz, b__law_take⟩ :=
  def_mk (N := N44) (st := s44) (ps := P44) (kw := []) (c.def_ 44 (d := d44) rfl) (He.glo_ok X G (c.fact 44 (f := .glo "_law_take") rfl)) sc44 chk44
    (fun _ _ _ _ _ _ us hl => match us, hl with | [_, _], _ => rfl) (by decide +kernel) (fun fd F q hq => by
      cases hq)
theorem k45 (X : K.In h) (G : h.Ns mainGlobals mg) (c : He.SaysD fas fns K) : DefOk tab K mg 45 ⟨2, N45.length, defs[45].fz, b__law_same⟩ :=
  def_mk (N := N45) (st := s45) (ps := P45) (kw := []) (c.def_ 45 (d := d45) rfl) (He.glo_ok X G (c.fact 45 (f := .glo "_law_same") rfl)) sc45 chk45
    (fun _ _ _ _ _ _ us hl => match us, hl with | [_, _], _ => rfl) (by decide +kernel) (fun fd F q hq => by
      cases hq)
theorem k46 (X : K.In h) (G : h.Ns mainGlobals mg) (c : He.SaysD fas fns K) : DefOk tab K mg 46 ⟨2, N46.length, defs[46].fz, b__law_low⟩ :=
  def_mk (N := N46) (st := s46) (ps := P46) (kw := []) (c.def_ 46 (d := d46) rfl) (He.glo_ok X G (c.fact 46 (f := .glo "_law_low") rfl)) sc46 chk46
    (fun _ _ _ _ _ _ us hl => match us, hl with | [_, _], _ => rfl) (by decide +kernel) (fun fd F q hq => by
      cases hq)
theorem k47 (X : K.In h) (G : h.Ns mainGlobals mg) (c : He.SaysD fas fns K) : DefOk tab K mg 47 ⟨2, N47.length, defs[47].fz, b__law_plus⟩ :=
  def_mk (N := N47) (st := s47) (ps := P47) (kw := []) (c.def_ 47 (d := d47) rfl) (He.glo_ok X G (c.fact 47 (f := .glo "_law_plus") rfl)) sc47 chk47
    (fun _ _ _ _ _ _ us hl => match us, hl with | [_, _], _ => rfl) (by decide +kernel) (fun fd F q hq => by
      cases hq)
theorem k48 (X : K.In h) (G : h.Ns mainGlobals mg) (c : He.SaysD fas fns K) : DefOk tab K mg 48 ⟨2, N48.length, defs[48].fz, b__law_minus⟩ :=
  def_mk (N := N48) (st := s48) (ps := P48) (kw := []) (c.def_ 48 (d := d48) rfl) (He.glo_ok X G (c.fact 48 (f := .glo "_law_minus") rfl)) sc48 chk48
    (fun _ _ _ _ _ _ us hl => match us, hl with | [_, _], _ => rfl) (by decide +kernel) (fun fd F q hq => by
      cases hq)
theorem k49 (X : K.In h) (G : h.Ns mainGlobals mg) (c : He.SaysD fas fns K) : DefOk tab K mg 49 ⟨2, N49.length, defs[49].fz, b__law_times⟩ :=
  def_mk (N := N49) (st := s49) (ps := P49) (kw := []) (c.def_ 49 (d := d49) rfl) (He.glo_ok X G (c.fact 49 (f := .glo "_law_times") rfl)) sc49 chk49
    (fun _ _ _ _ _ _ us hl => match us, hl with | [_, _], _ => rfl) (by decide +kernel) (fun fd F q hq => by
      cases hq)
theorem k50 (X : K.In h) (G : h.Ns mainGlobals mg) (c : He.SaysD fas fns K) : DefOk tab K mg 50 ⟨2, N50.length, defs[50].fz, b__law_over⟩ :=
  def_mk (N := N50) (st := s50) (ps := P50) (kw := []) (c.def_ 50 (d := d50) rfl) (He.glo_ok X G (c.fact 50 (f := .glo "_law_over") rfl)) sc50 chk50
    (fun _ _ _ _ _ _ us hl => match us, hl with | [_, _], _ => rfl) (by decide +kernel) (fun fd F q hq => by
      cases hq)
theorem k51 (X : K.In h) (G : h.Ns mainGlobals mg) (c : He.SaysD fas fns K) : DefOk tab K mg 51 ⟨2, N51.length, defs[51].fz, b__law_less⟩ :=
  def_mk (N := N51) (st := s51) (ps := P51) (kw := []) (c.def_ 51 (d := d51) rfl) (He.glo_ok X G (c.fact 51 (f := .glo "_law_less") rfl)) sc51 chk51
    (fun _ _ _ _ _ _ us hl => match us, hl with | [_, _], _ => rfl) (by decide +kernel) (fun fd F q hq => by
      cases hq)
theorem k52 (X : K.In h) (G : h.Ns mainGlobals mg) (c : He.SaysD fas fns K) : DefOk tab K mg 52 ⟨1, N52.length, defs[52].fz, b__law_total⟩ :=
  def_mk (N := N52) (st := s52) (ps := P52) (kw := []) (c.def_ 52 (d := d52) rfl) (He.glo_ok X G (c.fact 52 (f := .glo "_law_total") rfl)) sc52 chk52
    (fun _ _ _ _ _ _ us hl => match us, hl with | [_], _ => rfl) (by decide +kernel) (fun fd F q hq => by
      cases hq)
theorem k53 (X : K.In h) (G : h.Ns mainGlobals mg) (c : He.SaysD fas fns K) : DefOk tab K mg 53 ⟨1, N53.length, defs[53].fz, b__law_in_order⟩ :=
  def_mk (N := N53) (st := s53) (ps := P53) (kw := []) (c.def_ 53 (d := d53) rfl) (He.glo_ok X G (c.fact 53 (f := .glo "_law_in_order") rfl)) sc53 chk53
    (fun _ _ _ _ _ _ us hl => match us, hl with | [_], _ => rfl) (by decide +kernel) (fun fd F q hq => by
      cases hq)
theorem k54 (X : K.In h) (G : h.Ns mainGlobals mg) (c : He.SaysD fas fns K) : DefOk tab K mg 54 ⟨2, N54.length, defs[54].fz, b__law_greater⟩ :=
  def_mk (N := N54) (st := s54) (ps := P54) (kw := []) (c.def_ 54 (d := d54) rfl) (He.glo_ok X G (c.fact 54 (f := .glo "_law_greater") rfl)) sc54 chk54
    (fun _ _ _ _ _ _ us hl => match us, hl with | [_, _], _ => rfl) (by decide +kernel) (fun fd F q hq => by
      cases hq)
theorem k55 (X : K.In h) (G : h.Ns mainGlobals mg) (c : He.SaysD fas fns K) : DefOk tab K mg 55 ⟨2, N55.length, defs[55].fz, b__law_drawn⟩ :=
  def_mk (N := N55) (st := s55) (ps := P55) (kw := []) (c.def_ 55 (d := d55) rfl) (He.glo_ok X G (c.fact 55 (f := .glo "_law_drawn") rfl)) sc55 chk55
    (fun _ _ _ _ _ _ us hl => match us, hl with | [_, _], _ => rfl) (by decide +kernel) (fun fd F q hq => by
      cases hq)
theorem k56 (X : K.In h) (G : h.Ns mainGlobals mg) (c : He.SaysD fas fns K) : DefOk tab K mg 56 ⟨2, N56.length, defs[56].fz, b__law_beyond⟩ :=
  def_mk (N := N56) (st := s56) (ps := P56) (kw := []) (c.def_ 56 (d := d56) rfl) (He.glo_ok X G (c.fact 56 (f := .glo "_law_beyond") rfl)) sc56 chk56
    (fun _ _ _ _ _ _ us hl => match us, hl with | [_, _], _ => rfl) (by decide +kernel) (fun fd F q hq => by
      cases hq)
theorem k57 (X : K.In h) (G : h.Ns mainGlobals mg) (c : He.SaysD fas fns K) : DefOk tab K mg 57 ⟨1, N57.length, defs[57].fz, b__law_reserve⟩ :=
  def_mk (N := N57) (st := s57) (ps := P57) (kw := []) (c.def_ 57 (d := d57) rfl) (He.glo_ok X G (c.fact 57 (f := .glo "_law_reserve") rfl)) sc57 chk57
    (fun _ _ _ _ _ _ us hl => match us, hl with | [_], _ => rfl) (by decide +kernel) (fun fd F q hq => by
      cases hq)
theorem k58 (X : K.In h) (G : h.Ns mainGlobals mg) (c : He.SaysD fas fns K) : DefOk tab K mg 58 ⟨1, N58.length, defs[58].fz, b__law_capped⟩ :=
  def_mk (N := N58) (st := s58) (ps := P58) (kw := []) (c.def_ 58 (d := d58) rfl) (He.glo_ok X G (c.fact 58 (f := .glo "_law_capped") rfl)) sc58 chk58
    (fun _ _ _ _ _ _ us hl => match us, hl with | [_], _ => rfl) (by decide +kernel) (fun fd F q hq => by
      cases hq)
theorem k59 (X : K.In h) (G : h.Ns mainGlobals mg) (c : He.SaysD fas fns K) : DefOk tab K mg 59 ⟨2, N59.length, defs[59].fz, b__law_opened⟩ :=
  def_mk (N := N59) (st := s59) (ps := P59) (kw := []) (c.def_ 59 (d := d59) rfl) (He.glo_ok X G (c.fact 59 (f := .glo "_law_opened") rfl)) sc59 chk59
    (fun _ _ _ _ _ _ us hl => match us, hl with | [_, _], _ => rfl) (by decide +kernel) (fun fd F q hq => by
      cases hq)
theorem k60 (X : K.In h) (G : h.Ns mainGlobals mg) (c : He.SaysD fas fns K) : DefOk tab K mg 60 ⟨5, N60.length, defs[60].fz, b__law_open⟩ :=
  def_mk (N := N60) (st := s60) (ps := P60) (kw := []) (c.def_ 60 (d := d60) rfl) (He.glo_ok X G (c.fact 60 (f := .glo "_law_open") rfl)) sc60 chk60
    (fun _ _ _ _ _ _ us hl => match us, hl with | [_, _, _, _, _], _ => rfl) (by decide +kernel) (fun fd F q hq => by
      cases hq)
theorem k61 (X : K.In h) (G : h.Ns mainGlobals mg) (c : He.SaysD fas fns K) : DefOk tab K mg 61 ⟨2, N61.length, defs[61].fz, b__law_box_drawn⟩ :=
  def_mk (N := N61) (st := s61) (ps := P61) (kw := []) (c.def_ 61 (d := d61) rfl) (He.glo_ok X G (c.fact 61 (f := .glo "_law_box_drawn") rfl)) sc61 chk61
    (fun _ _ _ _ _ _ us hl => match us, hl with | [_, _], _ => rfl) (by decide +kernel) (fun fd F q hq => by
      cases hq)
theorem k62 (X : K.In h) (G : h.Ns mainGlobals mg) (c : He.SaysD fas fns K) : DefOk tab K mg 62 ⟨2, N62.length, defs[62].fz, b__law_costly⟩ :=
  def_mk (N := N62) (st := s62) (ps := P62) (kw := []) (c.def_ 62 (d := d62) rfl) (He.glo_ok X G (c.fact 62 (f := .glo "_law_costly") rfl)) sc62 chk62
    (fun _ _ _ _ _ _ us hl => match us, hl with | [_, _], _ => rfl) (by decide +kernel) (fun fd F q hq => by
      cases hq)
theorem k63 (X : K.In h) (G : h.Ns mainGlobals mg) (c : He.SaysD fas fns K) : DefOk tab K mg 63 ⟨3, N63.length, defs[63].fz, b__law_list_right⟩ :=
  def_mk (N := N63) (st := s63) (ps := P63) (kw := []) (c.def_ 63 (d := d63) rfl) (He.glo_ok X G (c.fact 63 (f := .glo "_law_list_right") rfl)) sc63 chk63
    (fun _ _ _ _ _ _ us hl => match us, hl with | [_, _, _], _ => rfl) (by decide +kernel) (fun fd F q hq => by
      cases hq)
theorem k64 (X : K.In h) (G : h.Ns mainGlobals mg) (c : He.SaysD fas fns K) : DefOk tab K mg 64 ⟨2, N64.length, defs[64].fz, b__law_single_right⟩ :=
  def_mk (N := N64) (st := s64) (ps := P64) (kw := []) (c.def_ 64 (d := d64) rfl) (He.glo_ok X G (c.fact 64 (f := .glo "_law_single_right") rfl)) sc64 chk64
    (fun _ _ _ _ _ _ us hl => match us, hl with | [_, _], _ => rfl) (by decide +kernel) (fun fd F q hq => by
      cases hq)
theorem k65 (X : K.In h) (G : h.Ns mainGlobals mg) (c : He.SaysD fas fns K) : DefOk tab K mg 65 ⟨6, N65.length, defs[65].fz, b__law_harm_right⟩ :=
  def_mk (N := N65) (st := s65) (ps := P65) (kw := []) (c.def_ 65 (d := d65) rfl) (He.glo_ok X G (c.fact 65 (f := .glo "_law_harm_right") rfl)) sc65 chk65
    (fun _ _ _ _ _ _ us hl => match us, hl with | [_, _, _, _, _, _], _ => rfl) (by decide +kernel) (fun fd F q hq => by
      cases hq)
theorem k66 (X : K.In h) (G : h.Ns mainGlobals mg) (c : He.SaysD fas fns K) : DefOk tab K mg 66 ⟨1, N66.length, defs[66].fz, b__law_cell_right⟩ :=
  def_mk (N := N66) (st := s66) (ps := P66) (kw := []) (c.def_ 66 (d := d66) rfl) (He.glo_ok X G (c.fact 66 (f := .glo "_law_cell_right") rfl)) sc66 chk66
    (fun _ _ _ _ _ _ us hl => match us, hl with | [_], _ => rfl) (by decide +kernel) (fun fd F q hq => by
      cases hq)
theorem k67 (X : K.In h) (G : h.Ns mainGlobals mg) (c : He.SaysD fas fns K) : DefOk tab K mg 67 ⟨1, N67.length, defs[67].fz, b_law⟩ :=
  def_mk (N := N67) (st := s67) (ps := P67) (kw := []) (c.def_ 67 (d := d67) rfl) (He.glo_ok X G (c.fact 67 (f := .glo "law") rfl)) sc67 chk67
    (fun _ _ _ _ _ _ us hl => match us, hl with | [_], _ => rfl) (by decide +kernel) (fun fd F q hq => by
      cases hq)
theorem all_ok (X : K.In h) (G : h.Ns mainGlobals mg) (c : He.SaysD fas fns K) (e : extra K = true) : AllOk tab P w K mg defs := by
  have a : AllI tab K mg 0 defs := .cons (k0 X G c) (.cons (k1 X G c) (.cons (k2 X G c) (.cons (k3 X G c) (.cons (k4 X G c) (.cons (k5 X G c) (.cons (k6 X G c) (.cons (k7 X G c) (.cons (k8 X G c) (.cons (k9 X G c) (.cons (k10 X G c) (.cons (k11 X G c) (.cons (k12 X G c) (.cons (k13 X G c) (.cons (k14 X G c) (.cons (k15 X G c) (.cons (k16 X G c) (.cons (k17 X G c) (.cons (k18 X G c) (.cons (k19 X G c) (.cons (k20 X G c) (.cons (k21 X G c) (.cons (k22 X G c) (.cons (k23 X G c) (.cons (k24 X G c) (.cons (k25 X G c) (.cons (k26 X G c) (.cons (k27 X G c) (.cons (k28 X G c) (.cons (k29 X G c) (.cons (k30 X G c) (.cons (k31 X G c) (.cons (k32 X G c) (.cons (k33 X G c) (.cons (k34 X G c) (.cons (k35 X G c) (.cons (k36 X G c) (.cons (k37 X G c) (.cons (k38 X G c) (.cons (k39 X G c) (.cons (k40 X G c) (.cons (k41 X G c) (.cons (k42 X G c) (.cons (k43 X G c) (.cons (k44 X G c) (.cons (k45 X G c) (.cons (k46 X G c) (.cons (k47 X G c) (.cons (k48 X G c) (.cons (k49 X G c) (.cons (k50 X G c) (.cons (k51 X G c) (.cons (k52 X G c) (.cons (k53 X G c) (.cons (k54 X G c) (.cons (k55 X G c) (.cons (k56 X G c) (.cons (k57 X G c) (.cons (k58 X G c) (.cons (k59 X G c) (.cons (k60 X G c) (.cons (k61 X G c) (.cons (k62 X G c) (.cons (k63 X G c) (.cons (k64 X G c) (.cons (k65 X G c) (.cons (k66 X G c) (.cons (k67 X G c) (.nil))))))))))))))))))))))))))))))))))))))))))))))))))))))))))))))))))))
  unfold extra at e
  rw [Bool.and_eq_true] at e
  refine ⟨fun f df hd => ?_, by decide, fun j x d hj => conK_ok X G ((List.all_eq_true.mp e.1) (x, d) (List.mem_of_getElem? hj)), fun x hx => ?_, fun hg => ?_⟩
  · have := a.get hd
    rwa [Nat.zero_add] at this
  · have hm : He.Fa.free x ∈ fas := List.mem_cons_of_mem _ (List.mem_cons_of_mem _ (List.mem_cons_of_mem _ (List.mem_cons_of_mem _ (List.mem_cons_of_mem _ (List.mem_cons_of_mem _ (List.mem_cons_of_mem _ (List.mem_cons_of_mem _ (List.mem_cons_of_mem _ (List.mem_cons_of_mem _ (List.mem_cons_of_mem _ (List.mem_cons_of_mem _ (List.mem_cons_of_mem _ (List.mem_cons_of_mem _ (List.mem_cons_of_mem _ (List.mem_cons_of_mem _ (List.mem_cons_of_mem _ (List.mem_cons_of_mem _ (List.mem_cons_of_mem _ (List.mem_cons_of_mem _ (List.mem_cons_of_mem _ (List.mem_cons_of_mem _ (List.mem_cons_of_mem _ (List.mem_cons_of_mem _ (List.mem_cons_of_mem _ (List.mem_cons_of_mem _ (List.mem_cons_of_mem _ (List.mem_cons_of_mem _ (List.mem_cons_of_mem _ (List.mem_cons_of_mem _ (List.mem_cons_of_mem _ (List.mem_cons_of_mem _ (List.mem_cons_of_mem _ (List.mem_cons_of_mem _ (List.mem_cons_of_mem _ (List.mem_cons_of_mem _ (List.mem_cons_of_mem _ (List.mem_cons_of_mem _ (List.mem_cons_of_mem _ (List.mem_cons_of_mem _ (List.mem_cons_of_mem _ (List.mem_cons_of_mem _ (List.mem_cons_of_mem _ (List.mem_cons_of_mem _ (List.mem_cons_of_mem _ (List.mem_cons_of_mem _ (List.mem_cons_of_mem _ (List.mem_cons_of_mem _ (List.mem_cons_of_mem _ (List.mem_cons_of_mem _ (List.mem_cons_of_mem _ (List.mem_cons_of_mem _ (List.mem_cons_of_mem _ (List.mem_cons_of_mem _ (List.mem_cons_of_mem _ (List.mem_cons_of_mem _ (List.mem_cons_of_mem _ (List.mem_cons_of_mem _ (List.mem_cons_of_mem _ (List.mem_cons_of_mem _ (List.mem_cons_of_mem _ (List.mem_cons_of_mem _ (List.mem_cons_of_mem _ (List.mem_cons_of_mem _ (List.mem_cons_of_mem _ (List.mem_cons_of_mem _ (List.mem_cons_of_mem _ (List.mem_cons_of_mem _ (List.mem_map.mpr ⟨x, hx, rfl⟩))))))))))))))))))))))))))))))))))))))))))))))))))))))))))))))))))))
    obtain ⟨i, hi⟩ := List.mem_iff_getElem?.mp hm
    exact He.free_ok X G (c.fact i hi)
  · exact gcdK_ok X G e.2
def callL (K : PySem.W.Frag) (P : Program) (w : World) : Sp := spD ⟨K, P, w⟩ (callN defs 20) 67 1
theorem law_of (X : K.In h) (G : h.Ns mainGlobals mg) {fa : Addr} (hfa : mg "law" = some (.ref fa)) (c : He.obsD fas fns K = He.valD fns) (e : extra K = true) : ∃ fd : FuncData, (∀ (s : Shared) (v : Value), BindsTo s fd ⟨[v], []⟩ [("script", v)]) ∧
    ∀ base : Heap, K.In base → base.Ns mainGlobals mg → FnOk P w K mg base CX0 20 fa fd ["script"] (callL K P w) := by
  obtain ⟨ps, fa', fd, h1, h2, h3, h4⟩ := fn_all (all_ok (P := P) (w := w) X G c e) (f := 67) (x := "law") rfl 19
  rw [hfa] at h2; cases h2
  cases h1
  exact ⟨fd, fun s v => h3 s [v] rfl, fun base _ _ => h4 base⟩
theorem sp_law {H : Hp} {a : Addr} {ns : List Int} {E : XK} (hO : Only H) (hS : SqL K H a (ns.map V.int)) {M' : Mm} (e : callN defs 20 67 [.fz (ns.map D.int)] [] = some (.bl true, M')) : callL K P w [.ref a] H (fun v _ => v = .bl true) E :=
  DL.sp_start hO hS e
end
end X

open PySem PySem.W PyProof.Rows
set_option maxRecDepth 100000
set_option maxHeartbeats 0 in

theorem PySem.Challenge.cw_workwide_k62_whole_opening_and_greatest_holds : PySem.Challenge.rw_workwide_k62_whole_opening_and_greatest.Holds := by
  w_on; o_law; k_head; (case hw => w_witness2)
  k_fill
  refine L2.walk_of (l := PySem.Challenge.rw_workwide_k62_whole_opening_and_greatest) (n := 63) (k := 20) (x := "script") (CX := fun _ => L2.CX0) (sp := fun w => X.callL _ PySem.Challenge.pw_workwide_k62_whole_opening_and_greatest w) rfl (by decide) rfl ⟨rfl, by decide, by decide⟩ (fun w h Y => PySem.W.kIn_of Y) ?F (fun _ _ a ns hl hO hS => (X.pure_law ns hl).elim fun _ e => X.sp_law (P := PySem.Challenge.pw_workwide_k62_whole_opening_and_greatest) hO hS e) (fun _ _ _ _ _ h => h)
  case F =>
    intro w mg fa h KX G hmg
    refine X.law_of KX G hmg ?c ?e
    case c => kernel_rfl
    case e => kernel_rfl

